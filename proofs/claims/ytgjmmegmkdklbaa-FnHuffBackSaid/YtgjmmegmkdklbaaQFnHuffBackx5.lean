-- A walk, made by walk.py, a program of this session's.
import Derived.Test.YtgjmmegmkdklbaaQFnHuffBackx0
import Derived.Test.YtgjmmegmkdklbaaQFnHuffBackx3
import Derived.Test.YtgjmmegmkdklbaaQFnHuffBackx4
namespace Go.Proofs.Ytgjmmegmkdklbaa.QFnHuffBack
open Go.RowKit Go.Proofs.YtgjmmegmkdklbaaW.PrintWords Go.Proofs.YtgjmmegmkdklbaaW.PrintLast Go.Proofs.YtgjmmegmkdklbaaW.PrintMore
attribute [local go_sem] max2_int min2_int max_two min_two max_three min_three max_four min_four   -- for this text's walks alone
set_option linter.unusedVariables false
set_option linter.unusedSimpArgs false

/-! ### impl_bitsOf: function 44 -/
def impl_bitsOf.l0 : Nat → List Int → Int → Int → Int → List Int → Option (Int × List Int)
 | 0, _, _, _, _, _ => none
 | k + 1, x15, x16, x17, x181000, x181001 => if x17 < x16 then (if 0 ≤ x17 then (if x17 < (x15.length : Int) then (if 0 ≤ (wrap64 (Int.tdiv x17 64)) then (if (wrap64 (Int.tdiv x17 64)) < (x181001.length : Int) then (if 0 ≤ (Int.tmod x17 64) then (impl_bitsOf.l0 k x15 x16 (wrap64 (x17 + 1)) x181000 (x181001.set ((wrap64 (Int.tdiv x17 64)) : Int).toNat (Go.bits .or .u64 (rd x181001 (wrap64 (Int.tdiv x17 64))) (shl .u64 (IntKind.u64.wrap (rd x15 x17)) (Int.tmod x17 64))))) else (none)) else (none)) else (none)) else (none)) else (none)) else (some (x181000, x181001))
def impl_bitsOf.f (k : Nat) (l0 : List Int) : Option (Int × List Int) := if 0 ≤ (wrap64 (Int.tdiv (wrap64 ((wrap64 ((l0.length : Int) + 64)) - 1)) 64)) then (if (wrap64 (Int.tdiv (wrap64 ((wrap64 ((l0.length : Int) + 64)) - 1)) 64) : Int).toNat ≤ 35184372088832 then (impl_bitsOf.l0 k l0 (l0.length : Int) 0 (l0.length : Int) (List.replicate (wrap64 (Int.tdiv (wrap64 ((wrap64 ((l0.length : Int) + 64)) - 1)) 64) : Int).toNat 0)) else (none)) else (none)
theorem impl_bitsOf.mono_l : ∀ k, (∀ y0 y1 y2 y3 y4, LeO (impl_bitsOf.l0 k y0 y1 y2 y3 y4) (impl_bitsOf.l0 (k + 1) y0 y1 y2 y3 y4))
 | 0 => fun _ _ _ _ _ r h => by simp [impl_bitsOf.l0] at h
 | k + 1 => by
  have ih0 := impl_bitsOf.mono_l k
  ·intro y0 y1 y2 y3 y4
   unfold impl_bitsOf.l0
   repeat' first|(with_reducible first|exact ih0 _ _ _ _ _|exact LeO.refl _|exact LeO.none _|refine LeO.ite ?_ ?_|refine LeO.bind ?_ (fun _ => ?_))|exact LeO.none _|refine LeO.ite ?_ ?_|refine LeO.bind ?_ (fun _ => ?_)
theorem impl_bitsOf.mono : ∀ a0 k, LeO (impl_bitsOf.f k a0) (impl_bitsOf.f (k + 1) a0) := by
 intro a0 k
 have ih0 := impl_bitsOf.mono_l k
 unfold impl_bitsOf.f
 repeat' first|(with_reducible first|exact ih0 _ _ _ _ _|exact LeO.refl _|exact LeO.none _|refine LeO.ite ?_ ?_|refine LeO.bind ?_ (fun _ => ?_))|exact LeO.none _|refine LeO.ite ?_ ?_|refine LeO.bind ?_ (fun _ => ?_)
def impl_bitsOf.T5 : Bool × List (List Nat × List Nat) := (true, [([], []), ([0], [0]), ([], []), ([2], [2]), ([1, 3], [1, 3]), ([4], [4]), ([], []), ([6], [6]), ([], []), ([8], [8]), ([7, 9], [7, 9]), ([5, 10], [5, 10]), ([1, 3, 0, 1, 2, 3, 4, 5, 6, 7, 8, 9, 10, 11], [1, 3]), ([12, 11, 0, 1, 2, 3, 4, 5, 6, 7, 8, 9, 10, 11], [11, 12])])
def impl_bitsOf.B5 : List Nat := [0, 1, 0, 4, 15, 31, 0, 64, 0, 256, 960, 2047, 4095, 8191]
theorem impl_bitsOf.tab5 : rtab .any (opsOf Try.f44 5) = impl_bitsOf.T5 := by kernel_rfl
theorem impl_bitsOf.bits5 : waitsOk impl_bitsOf.T5.2 impl_bitsOf.B5 = true := by kernel_rfl
abbrev impl_bitsOf.m0 : Array Bool := #[F,F,F,F,F,F,F,F,F,F,F,F,F,F]
abbrev impl_bitsOf.m1 : Array Bool := #[T,F,F,F,F,F,F,F,F,F,F,F,F,F]
abbrev impl_bitsOf.m2 : Array Bool := #[T,F,T,F,F,F,F,F,F,F,F,F,F,F]
abbrev impl_bitsOf.m3 : Array Bool := #[T,F,T,T,F,F,F,F,F,F,F,F,F,F]
abbrev impl_bitsOf.m4 : Array Bool := #[T,F,T,T,F,F,T,F,F,F,F,F,F,F]
abbrev impl_bitsOf.m5 : Array Bool := #[T,F,T,T,F,F,T,T,F,F,F,F,F,F]
abbrev impl_bitsOf.m6 : Array Bool := #[T,F,T,T,F,F,T,T,T,F,F,F,F,F]
abbrev impl_bitsOf.m7 : Array Bool := #[T,F,T,T,F,F,T,T,T,T,F,F,F,F]
abbrev impl_bitsOf.m8 : Array Bool := #[T,F,T,T,F,F,T,T,T,T,T,F,F,F]
abbrev impl_bitsOf.m9 : Array Bool := #[T,T,T,T,F,F,T,T,T,T,T,F,F,F]
abbrev impl_bitsOf.m10 : Array Bool := #[T,T,T,T,T,F,T,T,T,T,T,F,F,F]
abbrev impl_bitsOf.m11 : Array Bool := #[T,T,T,T,T,T,T,T,T,T,T,F,F,F]
abbrev impl_bitsOf.m12 : Array Bool := #[T,T,T,T,T,T,T,T,T,T,T,T,F,F]
abbrev impl_bitsOf.m13 : Array Bool := #[T,T,T,T,T,T,T,T,T,T,T,T,T,F]
abbrev impl_bitsOf.m14 : Array Bool := #[T,T,T,T,T,T,T,T,T,T,T,T,T,T]
set_option maxHeartbeats 8000000 in
set_option maxRecDepth 100000 in
theorem impl_bitsOf.calls (k : Nat) (A0 : Option Addr) (c0 : Nat) (l0 : List Int) (r1 : Int) (r2 : List Int) (w : World) (hr0 : Kd.C (Kd.int .i64) w A0 l0.length l0) (hc0 : l0.length ≤ c0) (h : impl_bitsOf.f k l0 = some (r1, r2)) :
  Calls Try.prog 44 #[.slice A0 l0.length c0] w fun e w' => ∃ v1_ : Value, e = .returned (.agg #[.int .i64 r1, v1_]) ∧ Kd.R (Kd.int .u64) 82 w' w.heap.size (fun _ => True) v1_ r2 ∧ Below w.heap.size w w' := by
 have hu30:=Try.underlying30
 have HR0:=mk0 hr0
 have HC0:=mk0 hc0
 clear hr0 hc0
 have HB:=mk0 (Below.refl w.heap.size w)
 have H:(if 0 ≤ (wrap64 (Int.tdiv (wrap64 ((wrap64 ((l0.length:Int) + 64)) - 1)) 64)) then (if (wrap64 (Int.tdiv (wrap64 ((wrap64 ((l0.length:Int) + 64)) - 1)) 64):Int).toNat ≤ 35184372088832 then (impl_bitsOf.l0 k l0 (l0.length:Int) 0 (l0.length:Int) (List.replicate (wrap64 (Int.tdiv (wrap64 ((wrap64 ((l0.length:Int) + 64)) - 1)) 64):Int).toNat 0)) else (none)) else (none)) = some (r1,r2):=h
 clear h
 obtain⟨ji2,hji2⟩:∃ j_:Int,(wrap64 (Int.tdiv (wrap64 ((wrap64 ((l0.length:Int) + 64)) - 1)) 64)) = j_:=⟨_,rfl⟩
 replace H:(if 0 ≤ (ji2) then (if (ji2:Int).toNat ≤ 35184372088832 then (impl_bitsOf.l0 k l0 (l0.length:Int) 0 (l0.length:Int) (List.replicate (ji2:Int).toNat 0)) else (none)) else (none)) = some (r1,r2):=by first|(rw [hji2] at H;exact H)|(simp only [hji2] at H ⊢;exact H)
 have hji2w:(IntKind.i64.wrap (Int.tdiv (wrap64 ((wrap64 ((l0.length:Int) + 64)) - 1)) 64)) = ji2:=(i64_w _).trans hji2
 by_cases c3:0 ≤ (ji2)
 rotate_left
 ·rw [if_neg c3] at H
  exact absurd H (by simp)

 rw [if_pos c3] at H
 have c3b0:=eq_true c3
 have c3b1:decide (0 ≤ (ji2)) = true:=decide_eq_true c3
 clear c3
 by_cases c4:(ji2:Int).toNat ≤ 35184372088832
 rotate_left
 ·rw [if_neg c4] at H
  exact absurd H (by simp)
 rw [if_pos c4] at H
 have c4b0:=eq_true c4
 have c4b1:decide ((ji2:Int).toNat ≤ 35184372088832) = true:=decide_eq_true c4
 clear c4
 obtain⟨y177,hy177⟩:∃ y_:List Int,y_ = (List.replicate (ji2:Int).toNat 0):=⟨_,rfl⟩
 replace H:(impl_bitsOf.l0 k l0 (l0.length:Int) 0 (l0.length:Int) y177) = some (r1,r2):=by first|(rw [hy177];with_reducible exact H)|(have H2_:=(Option.bind_some _ _).symm.trans H;rw [hy177];with_reducible exact H2_)|(have H2_:=(Option.bind_some _ _).symm.trans H;with_reducible exact H2_)|with_reducible exact H|(rw [hy177];exact H)|exact H
 have Ny177:=mk0 hy177
 clear hy177
 have H':=mk0 H
 clear H
 go_enter Try.func44,Try.ntmps44
 go_wp2_with (first|((with_reducible refine gate_dst (N:=2) rfl ?_);refine box_event ?hg (N:=2) ?hd (cs:=#[.int .i64 0,.slice none 0 0]) (t:=30) ?hr ?_;(case hd=>rfl);(case hg=>rfl);(case hr=>first|(go_simp;done)|(go_simp;rfl));intro gb176 hg w5 hbox hb;have BK176:=mk0 (hbox);have GW176:=mk0 ((by rw [hg];exact (kZ HB.out):w.heap.size ≤ gb176));have GE176:=mk0 ((by rw [hg];exact (kZ HB.out):w.heap.size ≤ gb176));replace HB:=mk0 (kS HB.out hb);clear hb hbox hg)|((with_reducible refine gate_dst (N:=13) rfl ?_);refine Kd.R_make (Kd.int .u64) _ 82 rfl (N:=13) rfl 28 _ _ rfl ji2 rfl rfl Try.underlying28 (.int .u64 0) 8 info82 rfl (by decide) (by omega) 0 (ok:=fun _=>True) (okp:=fun _=>True) rfl (fun _ hk=>hk) trivial (of_decide_eq_true (by first|(with_reducible assumption)|assumption)) (Nat.le_trans (Nat.mul_le_mul_right _ (of_decide_eq_true (by first|(with_reducible assumption)|assumption):ji2.toNat ≤ 35184372088832)) (by omega)) (Below.refl _ _) (Nat.le_refl _) ?_;intro v178 w6 ho7 hb hg_ hnew_;clear hg_ hnew_;(first|rw [← Ny177.out] at ho7|(simp only [Int.reduceToNat] at ho7;rw [← Ny177.out] at ho7));have HO179:=mk0 (Kd.R_lower ho7 (kZ HB.out));replace BK176:=mk0 (kK BK176.out hb);replace HB:=mk0 (kS HB.out hb);clear hb ho7;obtain⟨Ao8,co8,eo8⟩:=Kd.R_slice HO179.out;subst eo8)|((with_reducible refine gate_dst (N:=3) rfl ?_);refine box_event ?hg (N:=3) ?hd (cs:=#[.int .i64 0,.slice none 0 0]) (t:=30) ?hr ?_;(case hd=>rfl);(case hg=>rfl);(case hr=>first|(go_simp;done)|(go_simp;rfl));intro gb180 hg w9 hbox hb;replace HO179:=mk0 (bR HO179.out hb);have BK180:=mk0 (hbox);have GW180:=mk0 ((by rw [hg];exact (kZ HB.out):w.heap.size ≤ gb180));have GE180:=mk0 ((by rw [hg];exact (kZ HB.out):w.heap.size ≤ gb180));replace HB:=mk0 (kS HB.out hb);have NB176_180:=mk0 ((by rw [hg];exact Nat.ne_of_lt (kL BK176.out):gb176 ≠ gb180));have NB180_176:=mk0 ((by rw [hg];exact Nat.ne_of_gt (kL BK176.out):gb180 ≠ gb176));replace BK176:=mk0 (kK BK176.out hb);clear hb hbox hg;have hnb10:=NB180_176.out;have hnc10:=NB176_180.out;obtain⟨hcz11_0,hcz11_1,hfz11_0,hfz11_1⟩:=cz2 BK180.out))
 go_loopg [17] k (fun kq v17 w'=>∃ (x17_1:Int) (x181001_1:List Int) (u181001:Value),v17 = .int .i64 x17_1 ∧ Aside0 (impl_bitsOf.l0 kq l0 (l0.length:Int) x17_1 (l0.length:Int) x181001_1 = some (r1,r2)) ∧ Aside0 (kq ≤ k) ∧ Aside0 (Kd.R (Kd.int .u64) 82 w' w.heap.size (fun _=>True) u181001 x181001_1) ∧ Aside0 (w'.heap[gb176]? = some (.cells #[.int .i64 0,(.slice none 0 0)] 30 (0,0))) ∧ Aside0 (w'.heap[gb180]? = some (.cells #[.int .i64 (l0.length:Int),u181001] 30 (0,0))) ∧ Aside0 (Below w.heap.size w w'))
 case atStart=>exact⟨(0),(y177),(.slice Ao8 y177.length co8),(by first|rfl|(simp;done)|(simp [*];done)),H',⟨Nat.le_refl _⟩,⟨by (with_reducible repeat (first|apply aR|apply nR|apply dR));exact Kd.R_mono (Kd.R_far (p:=⟨gb180,1,none⟩) (Kd.R_far (p:=⟨gb180,0,none⟩) (Kd.R_types HO179.out BK180.out (by decide)) (by first|exact fun _ hk=>hk.2|(intro k_ hk;simp only [hk,ne_eq,and_self,not_false_eq_true])) (.int .i64 (l0.length:Int))) (by first|exact fun _ hk=>hk.2|(intro k_ hk;simp only [hk,ne_eq,and_self,not_false_eq_true])) (.slice Ao8 y177.length co8)) (fun _ hk=>trivial)⟩,⟨by (with_reducible repeat (first|apply nB|apply dB|apply aB));refine blk_far ?_ NB176_180.out _;(with_reducible repeat (first|apply nB|apply dB|apply aB));refine blk_far ?_ NB176_180.out _;(with_reducible repeat (first|apply nB|apply dB|apply aB));exact BK176.out⟩,⟨by (with_reducible repeat (first|apply nB|apply dB|apply aB));refine blk_put (cs:=#[.int .i64 (l0.length:Int),.slice none 0 0]) ?_ 1 _ rfl;(with_reducible repeat (first|apply nB|apply dB|apply aB));refine blk_put (cs:=#[.int .i64 0,.slice none 0 0]) ?_ 0 _ rfl;(with_reducible repeat (first|apply nB|apply dB|apply aB));exact BK180.out⟩,⟨kB HB.out⟩⟩
 case round =>
  clear H'
  try clear c1
  try clear p2
  try clear c3
  try clear c3b0
  try clear c3b1
  try clear c4
  try clear c4b0
  try clear c4b1
  try clear p6
  try clear c10
  try clear hcz11_0
  try clear hcz11_1
  try clear hfz11_0
  try clear hfz11_1
  obtain⟨x17_1,x181001_1,u181001,rfl,HA,HK1,HO_181001,BK176,BK180,HB⟩:=hrel
  cases gk with
  | zero=>exact absurd HA.out (by simp [impl_bitsOf.l0])
  | succ k1 =>
   have H:=HA.out
   clear HA
   simp only [impl_bitsOf.l0] at H
   by_cases c12:x17_1 < (l0.length:Int)
   rotate_left
   ·rw [if_neg c12] at H
    have c12b0:decide (x17_1 < (l0.length:Int)) = false:=decide_eq_false c12
    clear c12
    simp only [Option.some.injEq,Prod.mk.injEq] at H
    obtain⟨rfl,rfl⟩:=H
    have hnb25:=NB180_176.out
    have hnc25:=NB176_180.out
    obtain⟨hcz26_0,hcz26_1,hfz26_0,hfz26_1⟩:=cz2 BK180.out
    obtain⟨hcz27_0,hcz27_1,hfz27_0,hfz27_1⟩:=cz2 BK176.out
    obtain⟨Ao28,co28,eo28⟩:=Kd.R_slice HO_181001.out
    subst eo28
    go_wp2
    refine bodyPost_ret (results_cell_row rfl _ _ gb176 30 #[.int .i64 (l0.length:Int),.slice Ao28 x181001_1.length co28] (0,0) _ rfl (by (with_reducible repeat (first|apply nB|apply dB|apply aB));refine blk_put (cs:=#[.int .i64 (l0.length:Int),.slice none 0 0]) ?_ 1 _ rfl;(with_reducible repeat (first|apply nB|apply dB|apply aB));refine blk_put (cs:=#[.int .i64 0,.slice none 0 0]) ?_ 0 _ rfl;(with_reducible repeat (first|apply nB|apply dB|apply aB));exact BK176.out) Try.underlying30 rfl (by kernel_rfl)) rfl ?_
    exact⟨_,by first|rfl|(simp [errW_none,errW_some] <;> rfl)|(simp only [← hji2];first|rfl|(simp [errW_none,errW_some] <;> rfl))|(simp [*,errW_none,errW_some] <;> rfl),by (with_reducible repeat (first|apply aR|apply nR|apply dR));exact Kd.R_mono (Kd.R_far (p:=⟨gb176,1,none⟩) (Kd.R_far (p:=⟨gb176,0,none⟩) (Kd.R_types HO_181001.out BK176.out (by decide)) (by first|exact fun _ hk=>hk.2|(intro k_ hk;simp only [hk,ne_eq,and_self,not_false_eq_true])) (.int .i64 (l0.length:Int))) (by first|exact fun _ hk=>hk.2|(intro k_ hk;simp only [hk,ne_eq,and_self,not_false_eq_true])) (.slice Ao28 x181001_1.length co28)) (fun _ hk=>trivial),kB HB.out⟩
   rw [if_pos c12] at H
   have c12b0:decide (x17_1 < (l0.length:Int)) = true:=decide_eq_true c12
   clear c12
   by_cases c13:0 ≤ x17_1
   rotate_left
   ·rw [if_neg c13] at H
    exact absurd H (by simp)
   rw [if_pos c13] at H
   have c13b0:decide (0 ≤ x17_1) = true:=decide_eq_true c13
   clear c13
   by_cases c14:x17_1 < (l0.length:Int)
   rotate_left
   ·rw [if_neg c14] at H
    exact absurd H (by simp)
   rw [if_pos c14] at H
   have c14b0:decide (x17_1 < (l0.length:Int)) = true:=decide_eq_true c14
   clear c14
   obtain⟨ji15,hji15⟩:∃ j_:Int,(wrap64 (Int.tdiv x17_1 64)) = j_:=⟨_,rfl⟩
   replace H:(if 0 ≤ (ji15) then (if (ji15) < (x181001_1.length:Int) then (if 0 ≤ (Int.tmod x17_1 64) then (impl_bitsOf.l0 k1 l0 (l0.length:Int) (wrap64 (x17_1 + 1)) (l0.length:Int) (x181001_1.set ((ji15):Int).toNat (Go.bits .or .u64 (rd x181001_1 (ji15)) (shl .u64 (IntKind.u64.wrap (rd l0 x17_1)) (Int.tmod x17_1 64))))) else (none)) else (none)) else (none)) = some (r1,r2):=by first|(rw [hji15] at H;exact H)|(simp only [hji15] at H ⊢;exact H)
   have hji15w:(IntKind.i64.wrap (Int.tdiv x17_1 64)) = ji15:=(i64_w _).trans hji15
   by_cases c16:0 ≤ (ji15)
   rotate_left
   ·rw [if_neg c16] at H
    exact absurd H (by simp)
   rw [if_pos c16] at H
   have c16b0:decide (0 ≤ (ji15)) = true:=decide_eq_true c16
   clear c16
   by_cases c17:(ji15) < (x181001_1.length:Int)
   rotate_left
   ·rw [if_neg c17] at H
    exact absurd H (by simp)
   rw [if_pos c17] at H
   have c17b0:decide ((ji15) < (x181001_1.length:Int)) = true:=decide_eq_true c17
   clear c17
   obtain⟨ji18,hji18⟩:∃ j_:Int,(Int.tmod x17_1 64) = j_:=⟨_,rfl⟩
   replace H:(if 0 ≤ (ji18) then (impl_bitsOf.l0 k1 l0 (l0.length:Int) (wrap64 (x17_1 + 1)) (l0.length:Int) (x181001_1.set ((ji15):Int).toNat (Go.bits .or .u64 (rd x181001_1 (ji15)) (shl .u64 (IntKind.u64.wrap (rd l0 x17_1)) (ji18))))) else (none)) = some (r1,r2):=by first|(rw [hji18] at H;exact H)|(simp only [hji18] at H ⊢;exact H)
   by_cases c19:0 ≤ (ji18)
   rotate_left
   ·rw [if_neg c19] at H
    exact absurd H (by simp)
   rw [if_pos c19] at H
   have c19b0:=eq_true c19
   have c19b1:decide (0 ≤ (ji18)) = true:=decide_eq_true c19
   clear c19
   obtain⟨ji20,hji20⟩:∃ j_:Int,(shl .u64 (IntKind.u64.wrap (rd l0 x17_1)) (ji18)) = j_:=⟨_,rfl⟩
   replace H:(impl_bitsOf.l0 k1 l0 (l0.length:Int) (wrap64 (x17_1 + 1)) (l0.length:Int) (x181001_1.set ((ji15):Int).toNat (Go.bits .or .u64 (rd x181001_1 (ji15)) (ji20)))) = some (r1,r2):=by first|(rw [hji20] at H;exact H)|(simp only [hji20] at H ⊢;exact H)
   have hji20_:(IntKind.u64.wrap ((IntKind.u64.wrap (rd l0 x17_1)) * 2 ^ min (ji18).toNat 64)) = ji20:=hji20
   have hji20z:(ji18) ≤ 64 → (IntKind.u64.wrap ((IntKind.u64.wrap (rd l0 x17_1)) * 2 ^ (ji18).toNat)) = ji20:=shl_small hji20
   obtain⟨y183,hy183⟩:∃ y_:List Int,y_ = (x181001_1.set ((ji15):Int).toNat (Go.bits .or .u64 (rd x181001_1 (ji15)) (ji20))):=⟨_,rfl⟩
   replace H:(impl_bitsOf.l0 k1 l0 (l0.length:Int) (wrap64 (x17_1 + 1)) (l0.length:Int) y183) = some (r1,r2):=by first|(rw [hy183];with_reducible exact H)|(have H2_:=(Option.bind_some _ _).symm.trans H;rw [hy183];with_reducible exact H2_)|(have H2_:=(Option.bind_some _ _).symm.trans H;with_reducible exact H2_)|with_reducible exact H|(rw [hy183];exact H)|exact H
   have Ny183:=mk0 hy183
   clear hy183
   have H':=mk0 H
   clear H
   have p181:0 ≤ (x17_1:Int):=of_decide_eq_true (by first|(with_reducible assumption)|assumption)
   have q181:x17_1 < (l0.length:Int):=of_decide_eq_true (by first|(with_reducible assumption)|assumption)
   obtain⟨ad181,e181,hx181_0⟩:=Kd.at_int HR0.out x17_1 p181 q181
   cases e181
   replace hx181_0:=(HB.out.cell (World.block_lt_of_cell? w _ hx181_0)).trans hx181_0
   replace p181:=eq_true p181
   replace q181:=eq_true q181
   try go_wp2
   replace HO_181001:=mk0 (dR HO_181001.out)
   replace BK176:=mk0 (dB BK176.out)
   replace BK180:=mk0 (dB BK180.out)
   replace HB:=mk0 (dZ HB.out)
   obtain⟨Ao23,co23,eo23⟩:=Kd.R_slice HO_181001.out
   (first|subst eo23|(injection eo23 with f1_ f2_ f3_;have f4_:=f1_.symm;have f5_:=f3_.symm;clear f1_ f2_ f3_;subst f4_;subst f5_))
   have p182:0 ≤ ((ji15):Int):=of_decide_eq_true (by first|(with_reducible assumption)|assumption)
   have q182:(ji15) < (x181001_1.length:Int):=of_decide_eq_true (by first|(with_reducible assumption)|assumption)
   obtain⟨ad182,e182,hx182_0⟩:=Kd.at_int (Kd.R_reads' HO_181001.out).2.2 (ji15) p182 q182
   cases e182
   replace p182:=eq_true p182
   replace q182:=eq_true q182
   have p21:0 ≤ ((ji15):Int):=of_decide_eq_true (by first|(with_reducible assumption)|assumption)
   have q21:((ji15):Int) < ((x181001_1.length:Int):Int):=of_decide_eq_true (by first|(with_reducible assumption)|assumption)
   obtain⟨go21,co21,eo21,gb21,gl21,cl21,HG21⟩:=Kd.R_form HO_181001.out (by omega)
   (first|cases eo21|(injection eo21 with ea_ en_ ec_;(first|subst ea_|(injection ea_ with ea_;subst ea_));subst ec_;clear en_))
   have GB21:=mk0 gb21
   have GG21:=mk0 HG21
   clear gb21 gl21 HG21
   (first|simp only [add_plain] at hx182_0|skip)
   obtain⟨hx21_0,hf21_0⟩:=Kd.R_celln 0 HO_181001.out ((ji15):Int) p21 q21
   replace p21:=eq_true p21
   replace q21:=eq_true q21
   have HP24:=Kd.R_putn HO_181001.out ((ji15):Int) (Go.bits .or .u64 (rd x181001_1 (ji15)) (ji20))
   rw [← Ny183.out] at HP24
   have HQ24:=mk0 HP24
   clear HP24
   refine start_ (n:=14) (S:=fun w'=>w'.cell? ⟨gb180,0,none⟩ = some (.int .i64 (l0.length:Int)) ∧ w'.cell? ⟨gb180,1,none⟩ = some (.slice (some ⟨go21,0,none⟩) x181001_1.length co23) ∧ w'.cell? ⟨go21,((ji15)).toNat,none⟩ = some (.int .u64 (rd x181001_1 (ji15)))) (ds:=[13]) impl_bitsOf.m0 (by kernel_rfl) rfl rfl ⟨(blk_cell BK180.out 0).trans rfl,(blk_cell BK180.out 1).trans rfl,hx182_0⟩ (fun hHeld=>?_);refine with_tabW impl_bitsOf.tab5 impl_bitsOf.bits5 (fun HT_ HW_=>?_)
   generalize wr.drew = w22 at HO_181001 BK176 BK180 HB GG21 HQ24 hf21_0 hx182_0 hx21_0 hHeld ⊢
   refine pure_ (i:=0) (N:=some 22) (v:=?_) (a':=?_) impl_bitsOf.m1 rfl rfl (any_of HT_.out (by kernel_rfl)) (fun _ _ _ h=>h) (Or.inl ⟨by rfl,?_⟩) ?_ ?_
   rotate_left
   ·intro w'
    go_simp
    with_reducible rfl
   rotate_left
   ·simp only [Act.put,sA,sO,sS,i64_w,i32_w]
    rfl
   refine pure_ (i:=2) (N:=some 24) (v:=?_) (a':=?_) impl_bitsOf.m2 rfl rfl (any_of HT_.out (by kernel_rfl)) (fun _ _ _ h=>h) (Or.inl ⟨by rfl,?_⟩) ?_ ?_
   rotate_left
   ·intro w'
    go_simp
    with_reducible rfl
   rotate_left
   ·simp only [Act.put,sA,sO,sS,i64_w,i32_w]
    rfl
   refine pure_ (i:=3) (N:=some 25) (v:=?_) (a':=?_) impl_bitsOf.m3 rfl rfl (any_of HT_.out (by kernel_rfl)) (fun _ _ _ h=>h) (Or.inl ⟨by rfl,?_⟩) ?_ ?_
   rotate_left
   ·intro w'
    go_simp
    with_reducible rfl
   rotate_left
   ·simp only [Act.put,sA,sO,sS,i64_w,i32_w]
    rfl
   refine pure_ (i:=6) (N:=some 28) (v:=?_) (a':=?_) impl_bitsOf.m4 rfl rfl (any_of HT_.out (by kernel_rfl)) (fun _ _ _ h=>h) (Or.inl ⟨by rfl,?_⟩) ?_ ?_
   rotate_left
   ·intro w'
    go_simp
    with_reducible rfl
   rotate_left
   ·simp only [Act.put,sA,sO,sS,i64_w,i32_w]
    rfl
   refine pure_ (i:=7) (N:=some 29) (v:=?_) (a':=?_) impl_bitsOf.m5 rfl rfl (any_of HT_.out (by kernel_rfl)) (fun _ _ _ h=>h) (Or.inl ⟨by rfl,?_⟩) ?_ ?_
   rotate_left
   ·intro w'
    go_simp
    with_reducible rfl
   rotate_left
   ·simp only [Act.put,sA,sO,sS,i64_w,i32_w]
    rfl
   refine pure_ (i:=8) (N:=some 30) (v:=?_) (a':=?_) impl_bitsOf.m6 rfl rfl (any_of HT_.out (by kernel_rfl)) (fun _ _ _ h=>h) (Or.inl ⟨by rfl,?_⟩) ?_ ?_
   rotate_left
   ·intro w'
    go_simp
    with_reducible rfl
   rotate_left
   ·simp only [Act.put,sA,sO,sS,i64_w,i32_w]
    rfl
   refine pure_ (i:=9) (N:=some 31) (v:=?_) (a':=?_) impl_bitsOf.m7 rfl rfl (any_of HT_.out (by kernel_rfl)) (fun _ _ _ h=>h) (Or.inl ⟨by rfl,?_⟩) ?_ ?_
   rotate_left
   ·intro w'
    go_simp
    with_reducible rfl
   rotate_left
   ·simp only [Act.put,sA,sO,sS,i64_w,i32_w]
    rfl
   refine pure_ (i:=10) (N:=some 32) (v:=?_) (a':=?_) impl_bitsOf.m8 rfl rfl (any_of HT_.out (by kernel_rfl)) (fun _ _ _ h=>h) (Or.inl ⟨by rfl,?_⟩) ?_ ?_
   rotate_left
   ·intro w'
    go_simp
    with_reducible rfl
   rotate_left
   ·simp only [Act.put,sA,sO,sS,i64_w,i32_w]
    rfl
   refine take_ (i:=1) (N:=some 23) (v:=?_) (a':=?_) impl_bitsOf.m9 rfl rfl (take_ofW HT_.out HW_.out (by kernel_rfl)) (fun _ _ _ h=>h) (Or.inl ⟨by rfl,?_⟩) hHeld ?_ ?_
   rotate_left
   ·rintro w' ⟨s0,s1,s2⟩
    go_simp
    with_reducible rfl
   rotate_left
   ·simp only [Act.put,sA,sO,sS,i64_w,i32_w]
    rfl
   refine pure_ (i:=4) (N:=some 26) (v:=?_) (a':=?_) impl_bitsOf.m10 rfl rfl (any_of HT_.out (by kernel_rfl)) (fun _ _ _ h=>h) (Or.inl ⟨by rfl,?_⟩) ?_ ?_
   rotate_left
   ·intro w'
    go_simp
    with_reducible rfl
   rotate_left
   ·simp only [Act.put,sA,sO,sS,i64_w,i32_w]
    rfl
   refine take_ (i:=5) (N:=some 27) (v:=?_) (a':=?_) impl_bitsOf.m11 rfl rfl (take_ofW HT_.out HW_.out (by kernel_rfl)) (fun _ _ _ h=>h) (Or.inl ⟨by rfl,?_⟩) hHeld ?_ ?_
   rotate_left
   ·rintro w' ⟨s0,s1,s2⟩
    go_simp
    with_reducible rfl
   rotate_left
   ·simp only [Act.put,sA,sO,sS,i64_w,i32_w]
    rfl
   refine pure_ (i:=11) (N:=some 33) (v:=?_) (a':=?_) impl_bitsOf.m12 rfl rfl (any_of HT_.out (by kernel_rfl)) (fun _ _ _ h=>h) (Or.inl ⟨by rfl,?_⟩) ?_ ?_
   rotate_left
   ·intro w'
    go_simp
    with_reducible rfl
   rotate_left
   ·simp only [Act.put,sA,sO,sS,i64_w,i32_w]
    rfl
   refine pure_ (i:=12) (N:=some 34) (v:=?_) (a':=?_) impl_bitsOf.m13 rfl rfl (any_of HT_.out (by kernel_rfl)) (fun _ _ _ h=>h) (Or.inl ⟨by rfl,?_⟩) ?_ ?_
   rotate_left
   ·intro w'
    go_simp
    with_reducible rfl
   rotate_left
   ·simp only [Act.put,sA,sO,sS,i64_w,i32_w]
    rfl
   refine last_ (i:=13) (N:=none) impl_bitsOf.m14 rfl rfl (one_of HT_.out (by kernel_rfl)) (by decide) (fun K hK=>?_)
   refine skip_ (w1:=?_) (by rfl) rfl ?_ ?_
   rotate_left
   ·go_simp
    rfl
   refine hK.out _ _ ?_
   clear hK K
   refine done_ (done_of HT_.out (by kernel_rfl)) ?_
   try go_wp2
   go_roundg k1
   case measure=>have:=HK1.out;omega
   case rel=>exact⟨(wrap64 (x17_1 + 1)),(y183),(.slice (some ⟨go21,0,none⟩) x181001_1.length co23),(by first|rfl|(simp;done)|(simp [*];done)),H',⟨by have:=HK1.out;omega⟩,⟨rR HQ24.out⟩,⟨by (with_reducible repeat (first|apply nB|apply dB|apply aB));refine blk_far ?_ (by have h_:=Kd.R_ne HO_181001.out BK176.out (by decide);intro e_;exact h_ (by rw [e_];rfl)) _;(with_reducible repeat (first|apply nB|apply dB|apply aB));exact BK176.out⟩,⟨by (with_reducible repeat (first|apply nB|apply dB|apply aB));refine blk_far ?_ (by have h_:=Kd.R_ne HO_181001.out BK180.out (by decide);intro e_;exact h_ (by rw [e_];rfl)) _;(with_reducible repeat (first|apply nB|apply dB|apply aB));exact BK180.out⟩,⟨kB HB.out⟩⟩
/-! ### impl_HuffWrite: function 14 -/
mutual
def impl_HuffWrite.l0 : Nat → List Int → List Int → List Int → List Int → Int → Int → Option (Int × List Int × Bool)
 | 0, _, _, _, _, _, _ => none
 | k + 1, x1, x7, x16, x17, x18, x19 => if x19 < x18 then (if 0 ≤ x19 then (if x19 < (x17.length : Int) then ((impl_within.f (rd x17 x19) 0 (wrap64 ((x1.length : Int) - 1))).bind fun t190 => (if t190 = true then (if 0 ≤ (rd x17 x19) then (if (rd x17 x19) < (x1.length : Int) then (if (rd x1 (rd x17 x19)) = 0 then (impl_HuffWrite.j1 k x1 x16 x7 (rd x17 x19) x17 x18 x19 true) else (impl_HuffWrite.j1 k x1 x16 x7 (rd x17 x19) x17 x18 x19 (decide ((wrap64 ((x7.length : Int) + (rd x1 (rd x17 x19)))) > 5000)))) else (none)) else (none)) else (impl_HuffWrite.j1 k x1 x16 x7 (rd x17 x19) x17 x18 x19 true))) else (none)) else (none)) else ((impl_bitsOf.f k x7).bind fun bt202 => (some (bt202.1, bt202.2, true)))
def impl_HuffWrite.j1 : Nat → List Int → List Int → List Int → Int → List Int → Int → Int → Bool → Option (Int × List Int × Bool)
 | 0, _, _, _, _, _, _, _, _ => none
 | k + 1, x1, x6, x7, x9, x17, x18, x19, x45 => if x45 = true then (some (0, ([] : List Int), false)) else (if 0 ≤ x9 then (if x9 < (x6.length : Int) then (if x9 < (x1.length : Int) then ((impl_digits.f k (rd x6 x9) (rd x1 x9)).bind fun t195 => ((slices_Reverse_int_int.f k t195).bind fun t198 => (if x7.length + t198.length < 17592186044416 then (impl_HuffWrite.l0 k x1 (x7 ++ t198) x6 x17 x18 (wrap64 (x19 + 1))) else (none)))) else (none)) else (none)) else (none))
end
def impl_HuffWrite.f (k : Nat) (l0 : List Int) (l1 : List Int) : Option (Int × List Int × Bool) := (impl_HuffOk.f k l1).bind fun t185 => (if t185 = true then ((impl_huffCodes.f k l1).bind fun t186 => (impl_HuffWrite.l0 k l1 ([] : List Int) t186 l0 (l0.length : Int) 0)) else (some (0, ([] : List Int), false)))
theorem impl_HuffWrite.mono_l : ∀ k, (∀ y0 y1 y2 y3 y4 y5, LeO (impl_HuffWrite.l0 k y0 y1 y2 y3 y4 y5) (impl_HuffWrite.l0 (k + 1) y0 y1 y2 y3 y4 y5)) ∧ (∀ y0 y1 y2 y3 y4 y5 y6 y7, LeO (impl_HuffWrite.j1 k y0 y1 y2 y3 y4 y5 y6 y7) (impl_HuffWrite.j1 (k + 1) y0 y1 y2 y3 y4 y5 y6 y7))
 | 0 => ⟨fun _ _ _ _ _ _ r h => by simp [impl_HuffWrite.l0] at h, fun _ _ _ _ _ _ _ _ r h => by simp [impl_HuffWrite.j1] at h⟩
 | k + 1 => by
  obtain ⟨ih0, ih1⟩ := impl_HuffWrite.mono_l k
  refine ⟨?_, ?_⟩
  ·intro y0 y1 y2 y3 y4 y5
   unfold impl_HuffWrite.l0
   repeat' first|(with_reducible first|exact ih0 _ _ _ _ _ _|exact ih1 _ _ _ _ _ _ _ _|exact impl_HuffOk.mono _ _|exact impl_bitsOf.mono _ _|exact impl_digits.mono _ _ _|exact impl_huffCodes.mono _ _|exact slices_Reverse_int_int.mono _ _|exact LeO.refl _|exact LeO.none _|refine LeO.ite ?_ ?_|refine LeO.bind ?_ (fun _ => ?_))|exact LeO.none _|refine LeO.ite ?_ ?_|refine LeO.bind ?_ (fun _ => ?_)
  ·intro y0 y1 y2 y3 y4 y5 y6 y7
   unfold impl_HuffWrite.j1
   repeat' first|(with_reducible first|exact ih0 _ _ _ _ _ _|exact ih1 _ _ _ _ _ _ _ _|exact impl_HuffOk.mono _ _|exact impl_bitsOf.mono _ _|exact impl_digits.mono _ _ _|exact impl_huffCodes.mono _ _|exact slices_Reverse_int_int.mono _ _|exact LeO.refl _|exact LeO.none _|refine LeO.ite ?_ ?_|refine LeO.bind ?_ (fun _ => ?_))|exact LeO.none _|refine LeO.ite ?_ ?_|refine LeO.bind ?_ (fun _ => ?_)
theorem impl_HuffWrite.mono : ∀ a0 a1 k, LeO (impl_HuffWrite.f k a0 a1) (impl_HuffWrite.f (k + 1) a0 a1) := by
 intro a0 a1 k
 obtain ⟨ih0, ih1⟩ := impl_HuffWrite.mono_l k
 unfold impl_HuffWrite.f
 repeat' first|(with_reducible first|exact ih0 _ _ _ _ _ _|exact ih1 _ _ _ _ _ _ _ _|exact impl_HuffOk.mono _ _|exact impl_bitsOf.mono _ _|exact impl_digits.mono _ _ _|exact impl_huffCodes.mono _ _|exact slices_Reverse_int_int.mono _ _|exact LeO.refl _|exact LeO.none _|refine LeO.ite ?_ ?_|refine LeO.bind ?_ (fun _ => ?_))|exact LeO.none _|refine LeO.ite ?_ ?_|refine LeO.bind ?_ (fun _ => ?_)
def impl_HuffWrite.T10 : Bool × List (List Nat × List Nat) := (true, [([], []), ([], []), ([0, 1], [0, 1]), ([2], [2]), ([], []), ([], []), ([4, 5], [4, 5]), ([6], [6]), ([3, 7], [3, 7]), ([8, 8, 0, 1, 2, 3, 4, 5, 6, 7, 8], [8])])
def impl_HuffWrite.B10 : List Nat := [0, 0, 3, 7, 0, 0, 48, 112, 255, 511]
theorem impl_HuffWrite.tab10 : rtab .any (opsOf Try.f14 10) = impl_HuffWrite.T10 := by kernel_rfl
theorem impl_HuffWrite.bits10 : waitsOk impl_HuffWrite.T10.2 impl_HuffWrite.B10 = true := by kernel_rfl
abbrev impl_HuffWrite.m0 : Array Bool := #[F,F,F,F,F,F,F,F,F,F]
abbrev impl_HuffWrite.m1 : Array Bool := #[T,F,F,F,F,F,F,F,F,F]
abbrev impl_HuffWrite.m2 : Array Bool := #[T,T,F,F,F,F,F,F,F,F]
abbrev impl_HuffWrite.m3 : Array Bool := #[T,T,T,F,F,F,F,F,F,F]
abbrev impl_HuffWrite.m4 : Array Bool := #[T,T,T,F,T,F,F,F,F,F]
abbrev impl_HuffWrite.m5 : Array Bool := #[T,T,T,F,T,T,F,F,F,F]
abbrev impl_HuffWrite.m6 : Array Bool := #[T,T,T,F,T,T,T,F,F,F]
abbrev impl_HuffWrite.m7 : Array Bool := #[T,T,T,T,T,T,T,F,F,F]
abbrev impl_HuffWrite.m8 : Array Bool := #[T,T,T,T,T,T,T,T,F,F]
abbrev impl_HuffWrite.m9 : Array Bool := #[T,T,T,T,T,T,T,T,T,F]
abbrev impl_HuffWrite.m10 : Array Bool := #[T,T,T,T,T,T,T,T,T,T]
set_option maxHeartbeats 8000000 in
set_option maxRecDepth 100000 in
theorem impl_HuffWrite.calls (k : Nat) (A0 : Option Addr) (c0 : Nat) (l0 : List Int) (A1 : Option Addr) (c1 : Nat) (l1 : List Int) (r1 : Int) (r2 : List Int) (r3 : Bool) (w : World) (hr0 : Kd.C (Kd.int .i64) w A0 l0.length l0) (hc0 : l0.length ≤ c0) (hr1 : Kd.C (Kd.int .i64) w A1 l1.length l1) (hc1 : l1.length ≤ c1) (h : impl_HuffWrite.f k l0 l1 = some (r1, r2, r3)) :
  Calls Try.prog 14 #[.slice A0 l0.length c0, .slice A1 l1.length c1] w fun e w' => ∃ v1_ : Value, e = .returned (.tuple #[.agg #[.int .i64 r1, v1_], .bool r3]) ∧ Kd.R (Kd.int .u64) 82 w' w.heap.size (fun _ => True) v1_ r2 ∧ Below w.heap.size w w' := by
 have hu30:=Try.underlying30
 have HR0:=mk0 hr0
 have HC0:=mk0 hc0
 clear hr0 hc0
 have HR1:=mk0 hr1
 have HC1:=mk0 hc1
 clear hr1 hc1
 have HB:=mk0 (Below.refl w.heap.size w)
 have H:((impl_HuffOk.f k l1).bind fun t185=>(if t185 = true then ((impl_huffCodes.f k l1).bind fun t186=>(impl_HuffWrite.l0 k l1 ([]:List Int) t186 l0 (l0.length:Int) 0)) else (some (0,([]:List Int),false)))) = some (r1,r2,r3):=h
 clear h
 replace H:=Option.bind_eq_some_iff.mp H
 obtain⟨t185,A30,H⟩:=H
 replace H:(if t185 = true then ((impl_huffCodes.f k l1).bind fun t186=>(impl_HuffWrite.l0 k l1 ([]:List Int) t186 l0 (l0.length:Int) 0)) else (some (0,([]:List Int),false))) = some (r1,r2,r3):=H
 have A3:=mk0 A30
 clear A30
 by_cases c4:t185 = true
 rotate_left
 ·replace c4:=Bool.eq_false_iff.mpr c4
  subst c4
  have H1:(some (0,([]:List Int),false)) = some (r1,r2,r3):=by rw [if_neg (show ¬ (false = true) by decide)] at H;exact H
  clear H
  have H:=H1
  clear H1
  simp only [Option.some.injEq,Prod.mk.injEq] at H
  obtain⟨rfl,rfl,rfl⟩:=H
  go_enter Try.func14,Try.ntmps14
  go_wp2_with (first|((with_reducible refine gate_dst (N:=4) rfl ?_);(try (refine gate_guard (by rfl) ?_;dsimp only));refine box_event ?hg (N:=4) ?hd (cs:=#[.int .i64 0,.slice none 0 0]) (t:=30) ?hr ?_;(case hd=>rfl);(case hg=>rfl);(case hr=>first|(go_simp;done)|(go_simp;rfl));intro gb184 hg w38 hbox hb;have BK184:=mk0 (hbox);have GW184:=mk0 ((by rw [hg];exact (kZ HB.out):w.heap.size ≤ gb184));have GE184:=mk0 ((by rw [hg];exact (kZ HB.out):w.heap.size ≤ gb184));replace HB:=mk0 (kS HB.out hb);clear hb hbox hg)|((with_reducible refine gate_callee (f:=35) rfl ?_);refine goesL_ (some 12) rfl rfl Try.func35 (by kernel_rfl) rfl #[.slice A1 l1.length c1] rfl (by (try simp only [mA,mC,mN]);first|done|rfl|(simp only [List.length_drop,List.length_take];done)|(simp only [List.length_drop,List.length_take];rfl)) ?_;(with_reducible refine (impl_HuffOk.calls k _ _ l1 false _ ?side1 ?side2 A3.out).mono ?_);(case side1=>exact kC (Kd.C_below HR1.out HB.out));(case side2=>exact HC1.out);rintro e w39 ⟨rfl,hb⟩;refine⟨_,rfl,?_⟩;replace BK184:=mk0 (kK BK184.out hb);replace HB:=mk0 (kS HB.out hb);(try clear hb);obtain⟨hcz40_0,hcz40_1,hfz40_0,hfz40_1⟩:=cz2 BK184.out))
  refine bodyPost_ret (results_ct rfl _ _ gb184 30 #[.int .i64 0,.slice none 0 0] (0,0) _ rfl (by (with_reducible repeat (first|apply nB|apply dB|apply aB));refine blk_put (cs:=#[.int .i64 0,.slice none 0 0]) ?_ 1 _ rfl;(with_reducible repeat (first|apply nB|apply dB|apply aB));refine blk_put (cs:=#[.int .i64 0,.slice none 0 0]) ?_ 0 _ rfl;(with_reducible repeat (first|apply nB|apply dB|apply aB));exact BK184.out) Try.underlying30 rfl (by kernel_rfl)) rfl ?_
  exact⟨_,by first|rfl|(simp [errW_none,errW_some] <;> rfl)|(simp [*,errW_none,errW_some] <;> rfl),by first|exact Kd.R_nil _ _ _ _ _|exact Kd.N_nil _ _ _ _ _|exact Kd.V_nil _ _ _ _ _|exact Kd.Q_nil _ _ _ _ _|exact Kd.S_nil _ _ _ _ _,kB HB.out⟩

 subst c4
 have H1:((impl_huffCodes.f k l1).bind fun t186=>(impl_HuffWrite.l0 k l1 ([]:List Int) t186 l0 (l0.length:Int) 0)) = some (r1,r2,r3):=by rw [if_pos rfl] at H;exact H
 clear H
 have H:=H1
 clear H1
 replace H:=Option.bind_eq_some_iff.mp H
 obtain⟨t186,A50,H⟩:=H
 replace H:(impl_HuffWrite.l0 k l1 ([]:List Int) t186 l0 (l0.length:Int) 0) = some (r1,r2,r3):=H
 have A5:=mk0 A50
 clear A50
 have H':=mk0 H
 clear H
 go_enter Try.func14,Try.ntmps14
 go_wp2_with (first|((with_reducible refine gate_dst (N:=4) rfl ?_);(try (refine gate_guard (by rfl) ?_;dsimp only));refine box_event ?hg (N:=4) ?hd (cs:=#[.int .i64 0,.slice none 0 0]) (t:=30) ?hr ?_;(case hd=>rfl);(case hg=>rfl);(case hr=>first|(go_simp;done)|(go_simp;rfl));intro gb184 hg w6 hbox hb;have BK184:=mk0 (hbox);have GW184:=mk0 ((by rw [hg];exact (kZ HB.out):w.heap.size ≤ gb184));have GE184:=mk0 ((by rw [hg];exact (kZ HB.out):w.heap.size ≤ gb184));replace HB:=mk0 (kS HB.out hb);clear hb hbox hg)|((with_reducible refine gate_callee (f:=35) rfl ?_);refine goesL_ (some 12) rfl rfl Try.func35 (by kernel_rfl) rfl #[.slice A1 l1.length c1] rfl (by (try simp only [mA,mC,mN]);first|done|rfl|(simp only [List.length_drop,List.length_take];done)|(simp only [List.length_drop,List.length_take];rfl)) ?_;(with_reducible refine (impl_HuffOk.calls k _ _ l1 true _ ?side1 ?side2 A3.out).mono ?_);(case side1=>exact kC (Kd.C_below HR1.out HB.out));(case side2=>exact HC1.out);rintro e w7 ⟨rfl,hb⟩;refine⟨_,rfl,?_⟩;replace BK184:=mk0 (kK BK184.out hb);replace HB:=mk0 (kS HB.out hb);(try clear hb))|((with_reducible refine gate_callee (f:=36) rfl ?_);refine goesL_ (some 16) rfl rfl Try.func36 (by kernel_rfl) rfl #[.slice A1 l1.length c1] rfl (by (try simp only [mA,mC,mN]);first|done|rfl|(simp only [List.length_drop,List.length_take];done)|(simp only [List.length_drop,List.length_take];rfl)) ?_;(with_reducible refine (impl_huffCodes.calls k _ _ l1 t186 _ ?side1 ?side2 A5.out).mono ?_);(case side1=>exact kC (Kd.C_below HR1.out HB.out));(case side2=>exact HC1.out);rintro e w8 ⟨v187,rfl,ho0,hb⟩;refine⟨_,rfl,?_⟩;have HO188:=mk0 (Kd.R_lower ho0 (kZ HB.out));replace BK184:=mk0 (kK BK184.out hb);replace HB:=mk0 (kS HB.out hb);(try clear hb);(try clear ho0)))
 go_loopg [7,19] k (fun kq v7 v19 w'=>∃ (x7_1:List Int) (x16_1:List Int) (x19_1:Int) (x185000_1:Int),v19 = .int .i64 x19_1 ∧ Aside0 (impl_HuffWrite.l0 kq l1 x7_1 x16_1 l0 (l0.length:Int) x19_1 = some (r1,r2,r3)) ∧ Aside0 (kq ≤ k) ∧ Aside0 (Kd.R (Kd.int .i64) 3 w' w.heap.size (fun k_=>some k_ ≠ (v187:Value).ownBlock) v7 x7_1) ∧ Aside0 (Kd.R (Kd.int .i64) 3 w' w.heap.size (fun k_=>some k_ ≠ (v7:Value).ownBlock) v187 x16_1) ∧ Aside0 (w'.heap[gb184]? = some (.cells #[.int .i64 x185000_1,(.slice none 0 0)] 30 (0,0))) ∧ Aside0 (Below w.heap.size w w'))
 case atStart=>exact⟨(([]:List Int)),(t186),(0),(0),(by first|rfl|(simp;done)|(simp [*];done)),H',⟨Nat.le_refl _⟩,⟨by first|exact Kd.R_nil _ _ _ _ _|exact Kd.N_nil _ _ _ _ _|exact Kd.V_nil _ _ _ _ _|exact Kd.Q_nil _ _ _ _ _|exact Kd.S_nil _ _ _ _ _⟩,⟨by (with_reducible repeat (first|apply aR|apply nR|apply dR));exact Kd.R_mono HO188.out (fun _ hk=>(by simp [Value.ownBlock]))⟩,⟨kN BK184.out⟩,⟨kB HB.out⟩⟩
 case round =>
  clear H'
  try clear c1
  try clear p2
  try clear c3
  try clear c4
  obtain⟨x7_1,x16_1,x19_1,x185000_1,rfl,HA,HK1,HO_7,HO_16,BK184,HB⟩:=hrel
  cases gk with
  | zero=>exact absurd HA.out (by simp [impl_HuffWrite.l0])
  | succ k1 =>
   have H:=HA.out
   clear HA
   simp only [impl_HuffWrite.l0] at H
   by_cases c9:x19_1 < (l0.length:Int)
   rotate_left
   ·rw [if_neg c9] at H
    have c9b0:decide (x19_1 < (l0.length:Int)) = false:=decide_eq_false c9
    clear c9
    replace H:=Option.bind_eq_some_iff.mp H
    obtain⟨⟨t202,t203⟩,A330,H⟩:=H
    replace H:(some (t202,t203,true)) = some (r1,r2,r3):=H
    have A33:=mk0 A330
    clear A330
    simp only [Option.some.injEq,Prod.mk.injEq] at H
    obtain⟨rfl,rfl,rfl⟩:=H
    obtain⟨Ao34,co34,eo34⟩:=Kd.R_slice HO_7.out
    subst eo34
    go_wp2_with (first|((with_reducible refine gate_callee (f:=44) rfl ?_);refine goesL_ (some 63) rfl rfl Try.func44 (by kernel_rfl) rfl #[.slice Ao34 x7_1.length co34] rfl (by (try simp only [mA,mC,mN]);first|done|rfl|(simp only [List.length_drop,List.length_take];done)|(simp only [List.length_drop,List.length_take];rfl)) ?_;(with_reducible refine (impl_bitsOf.calls k1 _ _ x7_1 t202 t203 _ ?side1 ?side2 A33.out).mono ?_);(case side1=>exact kC (Kd.R_reads' HO_7.out).2.2);(case side2=>exact (Kd.R_reads' HO_7.out).2.1);rintro e w35 ⟨v204,rfl,ho0,hb⟩;refine⟨_,rfl,?_⟩;replace HO_7:=mk0 (bR HO_7.out hb);replace HO_16:=mk0 (bR HO_16.out hb);have HO205:=mk0 (Kd.R_lower ho0 (kZ HB.out));replace BK184:=mk0 (kK BK184.out hb);replace HB:=mk0 (kS HB.out hb);(try clear hb);(try clear ho0);obtain⟨hcz36_0,hcz36_1,hfz36_0,hfz36_1⟩:=cz2 BK184.out;obtain⟨Ao37,co37,eo37⟩:=Kd.R_slice HO205.out;subst eo37))
    refine bodyPost_ret (results_ct rfl _ _ gb184 30 #[.int .i64 t202,.slice Ao37 t203.length co37] (0,0) _ rfl (by (with_reducible repeat (first|apply nB|apply dB|apply aB));refine blk_put (cs:=#[.int .i64 t202,.slice none 0 0]) ?_ 1 _ rfl;(with_reducible repeat (first|apply nB|apply dB|apply aB));refine blk_put (cs:=#[.int .i64 x185000_1,.slice none 0 0]) ?_ 0 _ rfl;(with_reducible repeat (first|apply nB|apply dB|apply aB));exact BK184.out) Try.underlying30 rfl (by kernel_rfl)) rfl ?_
    exact⟨_,by first|rfl|(simp [errW_none,errW_some] <;> rfl)|(simp [*,errW_none,errW_some] <;> rfl),by (with_reducible repeat (first|apply aR|apply nR|apply dR));exact Kd.R_mono (Kd.R_far (p:=⟨gb184,1,none⟩) (Kd.R_far (p:=⟨gb184,0,none⟩) (Kd.R_types HO205.out BK184.out (by decide)) (by first|exact fun _ hk=>hk.2|(intro k_ hk;simp only [hk,ne_eq,and_self,not_false_eq_true])) (.int .i64 t202)) (by first|exact fun _ hk=>hk.2|(intro k_ hk;simp only [hk,ne_eq,and_self,not_false_eq_true])) (.slice Ao37 t203.length co37)) (fun _ hk=>trivial),kB HB.out⟩
   rw [if_pos c9] at H
   have c9b0:decide (x19_1 < (l0.length:Int)) = true:=decide_eq_true c9
   clear c9
   by_cases c10:0 ≤ x19_1
   rotate_left
   ·rw [if_neg c10] at H
    exact absurd H (by simp)
   rw [if_pos c10] at H
   have c10b0:decide (0 ≤ x19_1) = true:=decide_eq_true c10
   clear c10
   by_cases c11:x19_1 < (l0.length:Int)
   rotate_left
   ·rw [if_neg c11] at H
    exact absurd H (by simp)
   rw [if_pos c11] at H
   have c11b0:decide (x19_1 < (l0.length:Int)) = true:=decide_eq_true c11
   clear c11
   have HC12:=mk0 H
   clear H
   have p189:0 ≤ (x19_1:Int):=of_decide_eq_true (by first|(with_reducible assumption)|assumption)
   have q189:x19_1 < (l0.length:Int):=of_decide_eq_true (by first|(with_reducible assumption)|assumption)
   obtain⟨ad189,e189,hx189_0⟩:=Kd.at_int HR0.out x19_1 p189 q189
   cases e189
   replace hx189_0:=(HB.out.cell (World.block_lt_of_cell? w _ hx189_0)).trans hx189_0
   replace p189:=eq_true p189
   replace q189:=eq_true q189
   go_upto_region 8 with (fail)
   go_cut [45] (fun v45 wc=>∃ (kq:Nat) (x45_11:Bool),v45 = .bool x45_11 ∧ Aside0 (impl_HuffWrite.j1 kq l1 x16_1 x7_1 (rd l0 x19_1) l0 (l0.length:Int) x19_1 x45_11 = some (r1,r2,r3)) ∧ Aside0 (kq ≤ k1) ∧ Aside0 (Kd.R (Kd.int .i64) 3 wc w.heap.size (fun k_=>some k_ ≠ (u7:Value).ownBlock) v187 x16_1) ∧ Aside0 (Kd.R (Kd.int .i64) 3 wc w.heap.size (fun k_=>some k_ ≠ (v187:Value).ownBlock) u7 x7_1) ∧ Aside0 (wc.heap[gb184]? = some (.cells #[.int .i64 x185000_1,(.slice none 0 0)] 30 (0,0))) ∧ Aside0 (Below w.heap.size w wc))
   case first =>
    have H:=HC12.out
    clear HC12
    replace H:=Option.bind_eq_some_iff.mp H
    obtain⟨t190,A130,H⟩:=H
    replace H:(if t190 = true then (if 0 ≤ (rd l0 x19_1) then (if (rd l0 x19_1) < (l1.length:Int) then (if (rd l1 (rd l0 x19_1)) = 0 then (impl_HuffWrite.j1 k1 l1 x16_1 x7_1 (rd l0 x19_1) l0 (l0.length:Int) x19_1 true) else (impl_HuffWrite.j1 k1 l1 x16_1 x7_1 (rd l0 x19_1) l0 (l0.length:Int) x19_1 (decide ((wrap64 ((x7_1.length:Int) + (rd l1 (rd l0 x19_1)))) > 5000)))) else (none)) else (none)) else (impl_HuffWrite.j1 k1 l1 x16_1 x7_1 (rd l0 x19_1) l0 (l0.length:Int) x19_1 true)) = some (r1,r2,r3):=H
    have A13:=mk0 A130
    clear A130
    by_cases c14:t190 = true
    rotate_left
    ·replace c14:=Bool.eq_false_iff.mpr c14
     subst c14
     have H1:(impl_HuffWrite.j1 k1 l1 x16_1 x7_1 (rd l0 x19_1) l0 (l0.length:Int) x19_1 true) = some (r1,r2,r3):=by rw [if_neg (show ¬ (false = true) by decide)] at H;exact H
     clear H
     have H:=H1
     clear H1
     have H':=mk0 H
     clear H
     go_wp2_with (first|((with_reducible refine gate_callee (f:=41) rfl ?_);refine goesL_ (some 27) rfl rfl Try.func41 (by kernel_rfl) rfl #[.int .i64 (rd l0 x19_1),.int .i64 0,.int .i64 (wrap64 ((l1.length:Int) - 1))] rfl (by (try simp only [mA,mC,mN]);first|done|rfl|(simp only [List.length_drop,List.length_take];done)|(simp only [List.length_drop,List.length_take];rfl)) ?_;(with_reducible refine (impl_within.calls (rd l0 x19_1) 0 (wrap64 ((l1.length:Int) - 1)) false _ A13.out).mono ?_);rintro e w' ⟨rfl,⟨nd,rfl⟩⟩;refine⟨_,rfl,?_⟩))
     go_meet
     case rel=>exact⟨_,(true),(by first|rfl|(simp;done)|(simp [*];done)),H',⟨by have:=HK1.out;first|omega|exact Nat.le_refl _⟩,⟨rR HO_16.out⟩,⟨rR HO_7.out⟩,⟨kN BK184.out⟩,⟨kB HB.out⟩⟩
    subst c14
    have H1:(if 0 ≤ (rd l0 x19_1) then (if (rd l0 x19_1) < (l1.length:Int) then (if (rd l1 (rd l0 x19_1)) = 0 then (impl_HuffWrite.j1 k1 l1 x16_1 x7_1 (rd l0 x19_1) l0 (l0.length:Int) x19_1 true) else (impl_HuffWrite.j1 k1 l1 x16_1 x7_1 (rd l0 x19_1) l0 (l0.length:Int) x19_1 (decide ((wrap64 ((x7_1.length:Int) + (rd l1 (rd l0 x19_1)))) > 5000)))) else (none)) else (none)) = some (r1,r2,r3):=by rw [if_pos rfl] at H;exact H
    clear H
    have H:=H1
    clear H1
    by_cases c15:0 ≤ (rd l0 x19_1)
    rotate_left
    ·rw [if_neg c15] at H
     exact absurd H (by simp)
    rw [if_pos c15] at H
    have c15b0:decide (0 ≤ (rd l0 x19_1)) = true:=decide_eq_true c15
    clear c15
    (first|rw [c15b0]|(simp only [i64_w,i32_w];rw [c15b0])|skip)
    by_cases c16:(rd l0 x19_1) < (l1.length:Int)
    rotate_left
    ·rw [if_neg c16] at H
     exact absurd H (by simp)
    rw [if_pos c16] at H
    have c16b0:decide ((rd l0 x19_1) < (l1.length:Int)) = true:=decide_eq_true c16
    clear c16
    by_cases c17:(rd l1 (rd l0 x19_1)) = 0
    ·rw [if_pos c17] at H
     have c17b0:((rd l1 (rd l0 x19_1)) == 0) = true:=beq_iff_eq.mpr c17
     have c17b1:((rd l1 (rd l0 x19_1)) != 0) = false:=bne_eq_false_iff_eq.mpr c17
     clear c17
     have H':=mk0 H
     clear H
     go_wp2_with (first|((with_reducible refine gate_callee (f:=41) rfl ?_);refine goesL_ (some 27) rfl rfl Try.func41 (by kernel_rfl) rfl #[.int .i64 (rd l0 x19_1),.int .i64 0,.int .i64 (wrap64 ((l1.length:Int) - 1))] rfl (by (try simp only [mA,mC,mN]);first|done|rfl|(simp only [List.length_drop,List.length_take];done)|(simp only [List.length_drop,List.length_take];rfl)) ?_;(with_reducible refine (impl_within.calls (rd l0 x19_1) 0 (wrap64 ((l1.length:Int) - 1)) true _ A13.out).mono ?_);rintro e w' ⟨rfl,⟨nd,rfl⟩⟩;refine⟨_,rfl,?_⟩;have p191:0 ≤ ((rd l0 x19_1):Int):=of_decide_eq_true (by first|(with_reducible assumption)|assumption);have q191:(rd l0 x19_1) < (l1.length:Int):=of_decide_eq_true (by first|(with_reducible assumption)|assumption);obtain⟨ad191,e191,hx191_0⟩:=Kd.at_int HR1.out (rd l0 x19_1) p191 q191;cases e191;replace hx191_0:=(HB.out.cell (World.block_lt_of_cell? w _ hx191_0)).trans hx191_0;replace p191:=eq_true p191;replace q191:=eq_true q191))
     go_meet
     case rel=>exact⟨_,(true),(by first|rfl|(simp;done)|(simp [*];done)),H',⟨by have:=HK1.out;first|omega|exact Nat.le_refl _⟩,⟨rR HO_16.out⟩,⟨rR HO_7.out⟩,⟨kN BK184.out⟩,⟨kB HB.out⟩⟩
    rw [if_neg c17] at H
    have c17b0:((rd l1 (rd l0 x19_1)) == 0) = false:=beq_eq_false_iff_ne.mpr c17
    have c17b1:((rd l1 (rd l0 x19_1)) != 0) = true:=bne_iff_ne.mpr c17
    have H':=mk0 H
    clear H
    go_wp2_with (first|((with_reducible refine gate_callee (f:=41) rfl ?_);refine goesL_ (some 27) rfl rfl Try.func41 (by kernel_rfl) rfl #[.int .i64 (rd l0 x19_1),.int .i64 0,.int .i64 (wrap64 ((l1.length:Int) - 1))] rfl (by (try simp only [mA,mC,mN]);first|done|rfl|(simp only [List.length_drop,List.length_take];done)|(simp only [List.length_drop,List.length_take];rfl)) ?_;(with_reducible refine (impl_within.calls (rd l0 x19_1) 0 (wrap64 ((l1.length:Int) - 1)) true _ A13.out).mono ?_);rintro e w' ⟨rfl,⟨nd,rfl⟩⟩;refine⟨_,rfl,?_⟩;have p191:0 ≤ ((rd l0 x19_1):Int):=of_decide_eq_true (by first|(with_reducible assumption)|assumption);have q191:(rd l0 x19_1) < (l1.length:Int):=of_decide_eq_true (by first|(with_reducible assumption)|assumption);obtain⟨ad191,e191,hx191_0⟩:=Kd.at_int HR1.out (rd l0 x19_1) p191 q191;cases e191;replace hx191_0:=(HB.out.cell (World.block_lt_of_cell? w _ hx191_0)).trans hx191_0;replace p191:=eq_true p191;replace q191:=eq_true q191;obtain⟨Ao18,co18,eo18⟩:=Kd.R_slice HO_7.out;subst eo18;have p192:0 ≤ ((rd l0 x19_1):Int):=of_decide_eq_true (by first|(with_reducible assumption)|assumption);have q192:(rd l0 x19_1) < (l1.length:Int):=of_decide_eq_true (by first|(with_reducible assumption)|assumption);obtain⟨ad192,e192,hx192_0⟩:=Kd.at_int HR1.out (rd l0 x19_1) p192 q192;obtain rfl:ad191 = ad192:=(by injection e192);replace hx192_0:=(HB.out.cell (World.block_lt_of_cell? w _ hx192_0)).trans hx192_0;replace p192:=eq_true p192;replace q192:=eq_true q192))
    go_meet
    case rel=>exact⟨_,(decide ((wrap64 ((x7_1.length:Int) + (rd l1 (rd l0 x19_1)))) > 5000)),(by first|rfl|(simp;done)|(simp [*];done)),H',⟨by have:=HK1.out;first|omega|exact Nat.le_refl _⟩,⟨rR HO_16.out⟩,⟨rR HO_7.out⟩,⟨kN BK184.out⟩,⟨kB HB.out⟩⟩
   case rest =>
    clear HC12
    try clear c1
    try clear p1
    try clear q1
    try clear hx1
    try clear p2
    try clear c3
    try clear c4
    try clear p6
    try clear c9
    try clear c9b0
    try clear c10
    try clear c10b0
    try clear c11
    try clear c11b0
    try clear c14
    try clear c15
    try clear c15b0
    try clear c16
    try clear c16b0
    try clear c17
    try clear c17b0
    try clear c17b1
    try clear p18
    try clear q18
    try clear hx18
    try clear hx189_0
    try clear hx191_0
    try clear hx192_0
    try clear p189
    try clear p191
    try clear p192
    try clear p2
    try clear q189
    try clear q191
    try clear q192
    obtain⟨kq,x45_11,rfl,HA,HJ11,HO_6,HO_7,BK184,HB⟩:=hcut
    cases kq with
    | zero=>exact absurd HA.out (by simp [impl_HuffWrite.j1])
    | succ kj11 =>
     have H:=HA.out
     clear HA
     simp only [impl_HuffWrite.j1] at H
     by_cases c19:x45_11 = true
     ·subst c19
      have H1:(some (0,([]:List Int),false)) = some (r1,r2,r3):=by rw [if_pos rfl] at H;exact H
      clear H
      have H:=H1
      clear H1
      simp only [Option.some.injEq,Prod.mk.injEq] at H
      obtain⟨rfl,rfl,rfl⟩:=H
      obtain⟨hcz20_0,hcz20_1,hfz20_0,hfz20_1⟩:=cz2 BK184.out
      go_wp2
      refine bodyPost_ret (results_ct rfl _ _ gb184 30 #[.int .i64 0,.slice none 0 0] (0,0) _ rfl (by (with_reducible repeat (first|apply nB|apply dB|apply aB));refine blk_put (cs:=#[.int .i64 0,.slice none 0 0]) ?_ 1 _ rfl;(with_reducible repeat (first|apply nB|apply dB|apply aB));refine blk_put (cs:=#[.int .i64 x185000_1,.slice none 0 0]) ?_ 0 _ rfl;(with_reducible repeat (first|apply nB|apply dB|apply aB));exact BK184.out) Try.underlying30 rfl (by kernel_rfl)) rfl ?_
      exact⟨_,by first|rfl|(simp [errW_none,errW_some] <;> rfl)|(simp [*,errW_none,errW_some] <;> rfl),by first|exact Kd.R_nil _ _ _ _ _|exact Kd.N_nil _ _ _ _ _|exact Kd.V_nil _ _ _ _ _|exact Kd.Q_nil _ _ _ _ _|exact Kd.S_nil _ _ _ _ _,kB HB.out⟩
     replace c19:=Bool.eq_false_iff.mpr c19
     subst c19
     have H1:(if 0 ≤ (rd l0 x19_1) then (if (rd l0 x19_1) < (x16_1.length:Int) then (if (rd l0 x19_1) < (l1.length:Int) then ((impl_digits.f kj11 (rd x16_1 (rd l0 x19_1)) (rd l1 (rd l0 x19_1))).bind fun t195=>((slices_Reverse_int_int.f kj11 t195).bind fun t198=>(if x7_1.length + t198.length < 17592186044416 then (impl_HuffWrite.l0 kj11 l1 (x7_1 ++ t198) x16_1 l0 (l0.length:Int) (wrap64 (x19_1 + 1))) else (none)))) else (none)) else (none)) else (none)) = some (r1,r2,r3):=by rw [if_neg (show ¬ (false = true) by decide)] at H;exact H
     clear H
     have H:=H1
     clear H1
     by_cases c21:0 ≤ (rd l0 x19_1)
     rotate_left
     ·rw [if_neg c21] at H
      exact absurd H (by simp)
     rw [if_pos c21] at H
     have c21b0:decide (0 ≤ (rd l0 x19_1)) = true:=decide_eq_true c21
     clear c21
     by_cases c22:(rd l0 x19_1) < (x16_1.length:Int)
     rotate_left
     ·rw [if_neg c22] at H
      exact absurd H (by simp)
     rw [if_pos c22] at H
     have c22b0:decide ((rd l0 x19_1) < (x16_1.length:Int)) = true:=decide_eq_true c22
     clear c22
     by_cases c23:(rd l0 x19_1) < (l1.length:Int)
     rotate_left
     ·rw [if_neg c23] at H
      exact absurd H (by simp)
     rw [if_pos c23] at H
     have c23b0:decide ((rd l0 x19_1) < (l1.length:Int)) = true:=decide_eq_true c23
     clear c23
     replace H:=Option.bind_eq_some_iff.mp H
     obtain⟨t195,A240,H⟩:=H
     replace H:((slices_Reverse_int_int.f kj11 t195).bind fun t198=>(if x7_1.length + t198.length < 17592186044416 then (impl_HuffWrite.l0 kj11 l1 (x7_1 ++ t198) x16_1 l0 (l0.length:Int) (wrap64 (x19_1 + 1))) else (none))) = some (r1,r2,r3):=H
     have A24:=mk0 A240
     clear A240
     replace H:=Option.bind_eq_some_iff.mp H
     obtain⟨t198,A250,H⟩:=H
     replace H:(if x7_1.length + t198.length < 17592186044416 then (impl_HuffWrite.l0 kj11 l1 (x7_1 ++ t198) x16_1 l0 (l0.length:Int) (wrap64 (x19_1 + 1))) else (none)) = some (r1,r2,r3):=H
     have A25:=mk0 A250
     clear A250
     by_cases c26:x7_1.length + t198.length < 17592186044416
     rotate_left
     ·rw [if_neg c26] at H
      exact absurd H (by simp)
     rw [if_pos c26] at H
     have LMc26:=mk0 c26
     clear c26
     obtain⟨y199,hy199⟩:∃ y_:List Int,y_ = (x7_1 ++ t198):=⟨_,rfl⟩
     replace H:(impl_HuffWrite.l0 kj11 l1 y199 x16_1 l0 (l0.length:Int) (wrap64 (x19_1 + 1))) = some (r1,r2,r3):=by first|(rw [hy199];with_reducible exact H)|(have H2_:=(Option.bind_some _ _).symm.trans H;rw [hy199];with_reducible exact H2_)|(have H2_:=(Option.bind_some _ _).symm.trans H;with_reducible exact H2_)|with_reducible exact H|(rw [hy199];exact H)|exact H
     have Ny199:=mk0 hy199
     clear hy199
     have H':=mk0 H
     clear H
     try go_wp2
     replace HO_6:=mk0 (dR HO_6.out)
     replace HO_7:=mk0 (dR HO_7.out)
     replace BK184:=mk0 (dB BK184.out)
     replace HB:=mk0 (dZ HB.out)
     obtain⟨Ao28,co28,eo28⟩:=Kd.R_slice HO_6.out
     (first|subst eo28|(injection eo28 with f1_ f2_ f3_;have f4_:=f1_.symm;have f5_:=f3_.symm;clear f1_ f2_ f3_;subst f4_;subst f5_))
     have p193:0 ≤ ((rd l0 x19_1):Int):=of_decide_eq_true (by first|(with_reducible assumption)|assumption)
     have q193:(rd l0 x19_1) < (x16_1.length:Int):=of_decide_eq_true (by first|(with_reducible assumption)|assumption)
     obtain⟨ad193,e193,hx193_0⟩:=Kd.at_int (Kd.R_reads' HO_6.out).2.2 (rd l0 x19_1) p193 q193
     cases e193
     replace p193:=eq_true p193
     replace q193:=eq_true q193
     have p194:0 ≤ ((rd l0 x19_1):Int):=of_decide_eq_true (by first|(with_reducible assumption)|assumption)
     have q194:(rd l0 x19_1) < (l1.length:Int):=of_decide_eq_true (by first|(with_reducible assumption)|assumption)
     obtain⟨ad194,e194,hx194_0⟩:=Kd.at_int HR1.out (rd l0 x19_1) p194 q194
     have hw194_0:=hx194_0
     cases e194
     replace hx194_0:=(HB.out.cell (World.block_lt_of_cell? w _ hx194_0)).trans hx194_0
     replace p194:=eq_true p194
     replace q194:=eq_true q194
     refine start_ (n:=10) (S:=fun w'=>w'.cell? (ad193.add ((rd l0 x19_1)).toNat) = some (.int .i64 (rd x16_1 (rd l0 x19_1))) ∧ w'.cell? (ad194.add ((rd l0 x19_1)).toNat) = some (.int .i64 (rd l1 (rd l0 x19_1)))) (ds:=[]) impl_HuffWrite.m0 (by kernel_rfl) rfl rfl ⟨hx193_0,((HB.out.cell (World.block_lt_of_cell? w _ hw194_0)).trans hw194_0)⟩ (fun hHeld=>?_);refine with_tabW impl_HuffWrite.tab10 impl_HuffWrite.bits10 (fun HT_ HW_=>?_)
     generalize wc.drew = w27 at HO_6 HO_7 BK184 HB hx193_0 hx194_0 hHeld ⊢
     refine pure_ (i:=0) (N:=some 47) (v:=?_) (a':=?_) impl_HuffWrite.m1 rfl rfl (any_of HT_.out (by kernel_rfl)) (fun _ _ _ h=>h) (Or.inl ⟨by rfl,?_⟩) ?_ ?_
     rotate_left
     ·intro w'
      go_simp
      with_reducible rfl
     rotate_left
     ·simp only [Act.put,sA,sO,sS,i64_w,i32_w]
      rfl
     refine pure_ (i:=1) (N:=some 48) (v:=?_) (a':=?_) impl_HuffWrite.m2 rfl rfl (any_of HT_.out (by kernel_rfl)) (fun _ _ _ h=>h) (Or.inl ⟨by rfl,?_⟩) ?_ ?_
     rotate_left
     ·intro w'
      go_simp
      with_reducible rfl
     rotate_left
     ·simp only [Act.put,sA,sO,sS,i64_w,i32_w]
      rfl
     refine pure_ (i:=2) (N:=some 49) (v:=?_) (a':=?_) impl_HuffWrite.m3 rfl rfl (any_of HT_.out (by kernel_rfl)) (fun _ _ _ h=>h) (Or.inl ⟨by rfl,?_⟩) ?_ ?_
     rotate_left
     ·intro w'
      go_simp
      with_reducible rfl
     rotate_left
     ·simp only [Act.put,sA,sO,sS,i64_w,i32_w]
      rfl
     refine pure_ (i:=4) (N:=some 51) (v:=?_) (a':=?_) impl_HuffWrite.m4 rfl rfl (any_of HT_.out (by kernel_rfl)) (fun _ _ _ h=>h) (Or.inl ⟨by rfl,?_⟩) ?_ ?_
     rotate_left
     ·intro w'
      go_simp
      with_reducible rfl
     rotate_left
     ·simp only [Act.put,sA,sO,sS,i64_w,i32_w]
      rfl
     refine pure_ (i:=5) (N:=some 52) (v:=?_) (a':=?_) impl_HuffWrite.m5 rfl rfl (any_of HT_.out (by kernel_rfl)) (fun _ _ _ h=>h) (Or.inl ⟨by rfl,?_⟩) ?_ ?_
     rotate_left
     ·intro w'
      go_simp
      with_reducible rfl
     rotate_left
     ·simp only [Act.put,sA,sO,sS,i64_w,i32_w]
      rfl
     refine pure_ (i:=6) (N:=some 53) (v:=?_) (a':=?_) impl_HuffWrite.m6 rfl rfl (any_of HT_.out (by kernel_rfl)) (fun _ _ _ h=>h) (Or.inl ⟨by rfl,?_⟩) ?_ ?_
     rotate_left
     ·intro w'
      go_simp
      with_reducible rfl
     rotate_left
     ·simp only [Act.put,sA,sO,sS,i64_w,i32_w]
      rfl
     refine take_ (i:=3) (N:=some 50) (v:=?_) (a':=?_) impl_HuffWrite.m7 rfl rfl (take_ofW HT_.out HW_.out (by kernel_rfl)) (fun _ _ _ h=>h) (Or.inl ⟨by rfl,?_⟩) hHeld ?_ ?_
     rotate_left
     ·rintro w' ⟨s0,s1⟩
      go_simp
      with_reducible rfl
     rotate_left
     ·simp only [Act.put,sA,sO,sS,i64_w,i32_w]
      rfl
     refine take_ (i:=7) (N:=some 54) (v:=?_) (a':=?_) impl_HuffWrite.m8 rfl rfl (take_ofW HT_.out HW_.out (by kernel_rfl)) (fun _ _ _ h=>h) (Or.inl ⟨by rfl,?_⟩) hHeld ?_ ?_
     rotate_left
     ·rintro w' ⟨s0,s1⟩
      go_simp
      with_reducible rfl
     rotate_left
     ·simp only [Act.put,sA,sO,sS,i64_w,i32_w]
      rfl
     refine one_ (i:=8) (N:=some 55) impl_HuffWrite.m9 rfl rfl (one_of HT_.out (by kernel_rfl)) (by decide) (fun K hK=>?_)
     refine goes_ Try.func42 (by kernel_rfl) rfl #[.int .i64 (rd x16_1 (rd l0 x19_1)),.int .i64 (rd l1 (rd l0 x19_1))] (by rfl) rfl rfl (by (try simp only [mA,mC,mN]);first|done|rfl|(simp only [List.length_drop,List.length_take];done)|(simp only [List.length_drop,List.length_take];rfl)) ?_
     with_reducible refine (impl_digits.calls kj11 (rd x16_1 (rd l0 x19_1)) (rd l1 (rd l0 x19_1)) t195 _ A24.out).mono ?_
     rintro e w29 ⟨v196,rfl,ho0,hb⟩
     have HS0_:=(hb.cell (World.block_lt_of_cell? _ _ (hHeld.1))).trans (hHeld.1)
     refine⟨_,rfl,?_⟩
     have HO197:=mk0 (Kd.R_lower (Kd.R_new' (Kd.R_new' ho0 (Kd.R_lt (rR HO_6.out))) (Kd.R_lt (rR HO_7.out))) (kZ HB.out))
     replace HO_6:=mk0 (Kd.R_elder' (rR HO_6.out) (Kd.R_base ho0) hb)
     replace HO_7:=mk0 (Kd.R_elder' (rR HO_7.out) (Kd.R_base ho0) hb)
     replace BK184:=mk0 (kK BK184.out hb)
     replace HB:=mk0 (kS HB.out hb)
     (try clear hb)
     (try clear ho0)
     refine hK.out _ _ ⟨HS0_,((HB.out.cell (World.block_lt_of_cell? w _ hw194_0)).trans hw194_0)⟩ (fun hHeld=>?_)
     clear hK K
     refine norm_ (a':=?_) ?_ ?_
     rotate_left
     ·show Act.put _ (some 55) _ = _
      simp only [Act.put,sA,sO,sS,i64_w,i32_w]
      rfl
     refine pure_ (i:=9) (N:=some 10) (v:=?_) (a':=?_) impl_HuffWrite.m10 rfl rfl (any_of HT_.out (by kernel_rfl)) (fun _ _ _ h=>h) (Or.inl ⟨by rfl,?_⟩) ?_ ?_
     rotate_left
     ·intro w'
      go_simp
      with_reducible rfl
     rotate_left
     ·simp only [Act.put,sA,sO,sS,i64_w,i32_w]
      rfl
     refine done_ (done_of HT_.out (by kernel_rfl)) ?_
     obtain⟨Ao30,co30,eo30⟩:=Kd.R_slice HO197.out
     subst eo30
     try go_wp2_with (first|((with_reducible refine gate_callee (f:=43) rfl ?_);refine goesL_ (some 57) rfl rfl Try.func43 (by kernel_rfl) rfl #[.slice Ao30 t195.length co30] rfl (by (try simp only [mA,mC,mN]);first|done|rfl|(simp only [List.length_drop,List.length_take];done)|(simp only [List.length_drop,List.length_take];rfl)) ?_;(with_reducible refine (slices_Reverse_int_int.calls kj11 (fun k_=>some k_ = (.slice Ao30 t195.length co30:Value).ownBlock) (.slice Ao30 t195.length co30) t195 t198 w _ ?side1 ?side2 A25.out).mono ?_);(case side1=>repeat (first|(with_reducible first|exact HB.out|apply aZ|apply nZ|apply dZ|refine sZ ?_ GE184.out)|exact HB.out));(case side2=>exact Kd.R_tight rfl HO197.out);rintro e w31 ⟨rfl,hy0,hb,hkp⟩;refine⟨_,rfl,?_⟩;replace HO_6:=mk0 (Kd.R_mono (ok':=fun k_=>some k_ ≠ (u7:Value).ownBlock ∧ some k_ ≠ (.slice Ao30 t195.length co30:Value).ownBlock) (Kd.R_keptB (HO_6.out) hkp (by first|exact fun k_ hk_ hs_=>(hk_.2) hs_|(intro k_ hk_ hs_;exact absurd hs_ (by simp only [hk_,ne_eq,or_self,not_false_eq_true])))) (by first|exact fun k_ hk_=>⟨hk_.1.1,hk_.1.2⟩|(intro k_ hk_;simp only [hk_,ne_eq,and_self,not_false_eq_true])));replace HO_7:=mk0 (Kd.R_mono (ok':=fun k_=>some k_ ≠ (.slice (some ad193) x16_1.length co28:Value).ownBlock ∧ some k_ ≠ (.slice Ao30 t195.length co30:Value).ownBlock) (Kd.R_keptB (HO_7.out) hkp (by first|exact fun k_ hk_ hs_=>(hk_.2) hs_|(intro k_ hk_ hs_;exact absurd hs_ (by simp only [hk_,ne_eq,or_self,not_false_eq_true])))) (by first|exact fun k_ hk_=>⟨hk_.1.1,hk_.1.2⟩|(intro k_ hk_;simp only [hk_,ne_eq,and_self,not_false_eq_true])));replace BK184:=mk0 (blk_kept (kN BK184.out) hkp (fun hs_=>(fun e_=>(Kd.R_ne HO197.out BK184.out (by decide)) e_) hs_));replace HO197:=mk0 (Kd.R_reok rfl hy0 (fun k_ e_=>HO197.out.1 k_ e_));replace HB:=mk0 (hb);(try clear hb);(try clear hkp);(try clear hy0))|((with_reducible refine gate_builtin (b:=.append) (xs:=#[.tmp 58,.tmp 59]) rfl ?_);(try (refine gate_guard (by rfl) ?_;dsimp only));at_builtin;refine Kd.R_append_rows (Kd.int .i64) (w0:=w) w.heap.size rfl (.tmp 58) (.tmp 59) 24 3 (.int .i64 0) 8 rfl Try.underlying24 info3 rfl (by decide) (by omega) u7 x7_1 t198 _ _ _ (fun k_=>some k_ ≠ (.slice (some ad193) x16_1.length co28:Value).ownBlock ∧ some k_ ≠ (.slice Ao30 t195.length co30:Value).ownBlock) (fun _=>False) rfl rfl ?aO ?aR (fun _ _ h=>h) (fun _ h=>h.elim) ?aF ?aB ?aS ?aL ?_;(case aR=>rw [show t195.length = t198.length from (Kd.R_reads' HO197.out).1];repeat (first|exact (Kd.R_reads' HO197.out).2.2|(with_reducible first|apply aC|apply nC|apply dC)));(case aB=>exact (kB HB.out));(case aF=>exact (fun k_ hk=>⟨Kd.fresh' (Kd.R_lt (rR HO_6.out)) k_ hk,Kd.fresh' (Kd.R_lt (rR HO197.out)) k_ hk⟩));(case aO=>exact (rR HO_7.out));(case aS=>exact (kZ HB.out));(case aL=>have:=LMc26.out;have hlx_:=(Kd.R_reads' HO197.out).1;omega);intro v200 w32 ho hb hg hat;rw [← Ny199.out] at ho;replace HO_6:=mk0 (Kd.R_after (ok:=(fun k_=>some k_ ≠ (.slice Ao30 t195.length co30:Value).ownBlock)) (by (with_reducible repeat (first|apply aR|apply nR|apply dR));exact Kd.R_mono HO_6.out (by first|exact fun _ hk=>⟨hk.2,hk.1⟩|(intro k_ hk;simp only [hk,ne_eq,and_self,not_false_eq_true]))) hg hat);replace BK184:=mk0 (blk_grown (kN BK184.out) hg (Kd.R_ne HO_7.out BK184.out (by decide)));replace HO197:=mk0 (Kd.R_after (ok:=(fun k_=>some k_ ≠ (.slice (some ad193) x16_1.length co28:Value).ownBlock)) (by (with_reducible repeat (first|apply aR|apply nR|apply dR));exact Kd.R_mono HO197.out (by first|exact fun _ hk=>⟨hk.1.2,hk.2⟩|(intro k_ hk;simp only [hk,ne_eq,and_self,not_false_eq_true]))) hg hat);replace HB:=mk0 (hb);have HO201:=mk0 (ho);clear HO_7 ho hb hg hat))
     go_roundg kj11
     case measure=>have:=HK1.out;have:=HJ11.out;omega
     case rel=>exact⟨(y199),(x16_1),(wrap64 (x19_1 + 1)),(x185000_1),(by first|rfl|(simp;done)|(simp [*];done)),H',⟨by have:=HK1.out;have:=HJ11.out;omega⟩,⟨by (with_reducible repeat (first|apply aR|apply nR|apply dR));exact Kd.R_mono HO201.out (by first|exact fun _ hk=>hk.1|(intro k_ hk;simp only [hk,ne_eq,and_self,not_false_eq_true]))⟩,⟨by (with_reducible repeat (first|apply aR|apply nR|apply dR));exact Kd.R_mono HO_6.out (by first|exact fun _ hk=>hk.2|(intro k_ hk;simp only [hk,ne_eq,and_self,not_false_eq_true]))⟩,⟨kN BK184.out⟩,⟨kB HB.out⟩⟩
/-! ### laws_same: function 23 -/
def laws_same.l0 : Nat → List Int → List Int → Int → Option (Bool)
 | 0, _, _, _ => none
 | k + 1, x0, x1, x5 => if x5 < (x0.length : Int) then (if 0 ≤ x5 then (if x5 < (x1.length : Int) then (if (rd x0 x5) = (rd x1 x5) then (laws_same.l0 k x0 x1 (wrap64 (x5 + 1))) else (some false)) else (none)) else (none)) else (some true)
def laws_same.f (k : Nat) (l0 : List Int) (l1 : List Int) : Option (Bool) := if (l0.length : Int) = (l1.length : Int) then (laws_same.l0 k l0 l1 0) else (some false)
theorem laws_same.mono_l : ∀ k, (∀ y0 y1 y2, LeO (laws_same.l0 k y0 y1 y2) (laws_same.l0 (k + 1) y0 y1 y2))
 | 0 => fun _ _ _ r h => by simp [laws_same.l0] at h
 | k + 1 => by
  have ih0 := laws_same.mono_l k
  ·intro y0 y1 y2
   unfold laws_same.l0
   repeat' first|(with_reducible first|exact ih0 _ _ _|exact LeO.refl _|exact LeO.none _|refine LeO.ite ?_ ?_|refine LeO.bind ?_ (fun _ => ?_))|exact LeO.none _|refine LeO.ite ?_ ?_|refine LeO.bind ?_ (fun _ => ?_)
theorem laws_same.mono : ∀ a0 a1 k, LeO (laws_same.f k a0 a1) (laws_same.f (k + 1) a0 a1) := by
 intro a0 a1 k
 have ih0 := laws_same.mono_l k
 unfold laws_same.f
 repeat' first|(with_reducible first|exact ih0 _ _ _|exact LeO.refl _|exact LeO.none _|refine LeO.ite ?_ ?_|refine LeO.bind ?_ (fun _ => ?_))|exact LeO.none _|refine LeO.ite ?_ ?_|refine LeO.bind ?_ (fun _ => ?_)
set_option maxHeartbeats 8000000 in
set_option maxRecDepth 100000 in
theorem laws_same.calls (k : Nat) (A0 : Option Addr) (c0 : Nat) (l0 : List Int) (A1 : Option Addr) (c1 : Nat) (l1 : List Int) (r : Bool) (w : World) (hr0 : Kd.C (Kd.int .i64) w A0 l0.length l0) (hc0 : l0.length ≤ c0) (hr1 : Kd.C (Kd.int .i64) w A1 l1.length l1) (hc1 : l1.length ≤ c1) (h : laws_same.f k l0 l1 = some r) :
  Calls Try.prog 23 #[.slice A0 l0.length c0, .slice A1 l1.length c1] w fun e w' => e = .returned (.bool r) ∧ Drawn0 w w' := by
 have HR0:=mk0 hr0
 have HC0:=mk0 hc0
 clear hr0 hc0
 have HR1:=mk0 hr1
 have HC1:=mk0 hc1
 clear hr1 hc1
 have H:(if (l0.length:Int) = (l1.length:Int) then (laws_same.l0 k l0 l1 0) else (some false)) = some r:=h
 clear h
 by_cases c3:(l0.length:Int) = (l1.length:Int)
 ·rw [if_pos c3] at H
  have c3b0:((l0.length:Int) == (l1.length:Int)) = true:=beq_iff_eq.mpr c3
  have c3b1:((l0.length:Int) != (l1.length:Int)) = false:=bne_eq_false_iff_eq.mpr c3
  have c3b2:(l0.length == l1.length) = true:=by first|simpa using c3|(simp at c3 ⊢;omega)
  clear c3
  have H':=mk0 H
  clear H
  go_enter Try.func23,Try.ntmps23
  go_wp2
  repeat (go_quiet (fail);try go_wp2)
  go_loopg [5] k (fun kq v5 w'=>∃ (x5_1:Int),v5 = .int .i64 x5_1 ∧ Aside0 (laws_same.l0 kq l0 l1 x5_1 = some r) ∧ Aside0 (kq ≤ k) ∧ Drawn0 w w')
  case atStart=>exact⟨(0),(by first|rfl|(simp;done)|(simp [*];done)),H',⟨Nat.le_refl _⟩,by repeat (first|exact Drawn0.refl _|apply Drawn0.step)⟩
  case round =>
   clear H'
   try clear c1
   try clear c2
   try clear p2
   try clear c3
   try clear c3b0
   try clear c3b1
   try clear c3b2
   obtain⟨x5_1,rfl,HA,HK1,⟨m1,rfl⟩⟩:=hrel
   cases gk with
   | zero=>exact absurd HA.out (by simp [laws_same.l0])
   | succ k1 =>
    have H:=HA.out
    clear HA
    simp only [laws_same.l0] at H
    by_cases c4:x5_1 < (l0.length:Int)
    ·rw [if_pos c4] at H
     have c4b0:decide (x5_1 < (l0.length:Int)) = true:=decide_eq_true c4
     clear c4
     by_cases c5:0 ≤ x5_1
     ·rw [if_pos c5] at H
      have c5b0:decide (0 ≤ x5_1) = true:=decide_eq_true c5
      clear c5
      by_cases c6:x5_1 < (l1.length:Int)
      ·rw [if_pos c6] at H
       have c6b0:decide (x5_1 < (l1.length:Int)) = true:=decide_eq_true c6
       clear c6
       by_cases c7:(rd l0 x5_1) = (rd l1 x5_1)
       ·rw [if_pos c7] at H
        have c7b0:((rd l0 x5_1) == (rd l1 x5_1)) = true:=beq_iff_eq.mpr c7
        have c7b1:((rd l0 x5_1) != (rd l1 x5_1)) = false:=bne_eq_false_iff_eq.mpr c7
        clear c7
        have H':=mk0 H
        clear H
        have p206:0 ≤ (x5_1:Int):=of_decide_eq_true (by first|(with_reducible assumption)|assumption)
        have q206:x5_1 < (l0.length:Int):=of_decide_eq_true (by first|(with_reducible assumption)|assumption)
        obtain⟨ad206,e206,hx206_0⟩:=Kd.at_int HR0.out x5_1 p206 q206
        cases e206
        replace p206:=eq_true p206
        replace q206:=eq_true q206
        have p207:0 ≤ (x5_1:Int):=of_decide_eq_true (by first|(with_reducible assumption)|assumption)
        have q207:x5_1 < (l1.length:Int):=of_decide_eq_true (by first|(with_reducible assumption)|assumption)
        obtain⟨ad207,e207,hx207_0⟩:=Kd.at_int HR1.out x5_1 p207 q207
        cases e207
        replace p207:=eq_true p207
        replace q207:=eq_true q207
        go_wp2
        repeat (go_quiet (fail);try go_wp2)
        go_roundg k1
        case measure=>have:=HK1.out;omega
        case rel=>exact⟨(wrap64 (x5_1 + 1)),(by first|rfl|(simp;done)|(simp [*];done)),H',⟨by have:=HK1.out;omega⟩,by repeat (first|exact Drawn0.refl _|apply Drawn0.step)⟩
       ·rw [if_neg c7] at H
        have c7b0:((rd l0 x5_1) == (rd l1 x5_1)) = false:=beq_eq_false_iff_ne.mpr c7
        have c7b1:((rd l0 x5_1) != (rd l1 x5_1)) = true:=bne_iff_ne.mpr c7
        obtain rfl:=Option.some.inj H
        have p206:0 ≤ (x5_1:Int):=of_decide_eq_true (by first|(with_reducible assumption)|assumption)
        have q206:x5_1 < (l0.length:Int):=of_decide_eq_true (by first|(with_reducible assumption)|assumption)
        obtain⟨ad206,e206,hx206_0⟩:=Kd.at_int HR0.out x5_1 p206 q206
        cases e206
        replace p206:=eq_true p206
        replace q206:=eq_true q206
        have p207:0 ≤ (x5_1:Int):=of_decide_eq_true (by first|(with_reducible assumption)|assumption)
        have q207:x5_1 < (l1.length:Int):=of_decide_eq_true (by first|(with_reducible assumption)|assumption)
        obtain⟨ad207,e207,hx207_0⟩:=Kd.at_int HR1.out x5_1 p207 q207
        cases e207
        replace p207:=eq_true p207
        replace q207:=eq_true q207
        go_wp2
        repeat (go_quiet (fail);try go_wp2)
        go_ret
        exact⟨by first|rfl|(simp;done)|(simp [*];done),by repeat (first|exact Drawn0.refl _|apply Drawn0.step)⟩
      ·rw [if_neg c6] at H
       exact absurd H (by simp)
     ·rw [if_neg c5] at H
      exact absurd H (by simp)
    ·rw [if_neg c4] at H
     have c4b0:decide (x5_1 < (l0.length:Int)) = false:=decide_eq_false c4
     clear c4
     obtain rfl:=Option.some.inj H
     go_wp2
     repeat (go_quiet (fail);try go_wp2)
     go_ret
     exact⟨by first|rfl|(simp;done)|(simp [*];done),by repeat (first|exact Drawn0.refl _|apply Drawn0.step)⟩
 ·rw [if_neg c3] at H
  have c3b0:((l0.length:Int) == (l1.length:Int)) = false:=beq_eq_false_iff_ne.mpr c3
  have c3b1:((l0.length:Int) != (l1.length:Int)) = true:=bne_iff_ne.mpr c3
  have c3b2:(l0.length == l1.length) = false:=by first|simpa using c3|(simp at c3 ⊢;omega)
  obtain rfl:=Option.some.inj H
  go_enter Try.func23,Try.ntmps23
  go_wp2
  repeat (go_quiet (fail);try go_wp2)
  go_ret
  exact⟨by first|rfl|(simp;done)|(simp [*];done),by repeat (first|exact Drawn0.refl _|apply Drawn0.step)⟩

end Go.Proofs.Ytgjmmegmkdklbaa.QFnHuffBack
