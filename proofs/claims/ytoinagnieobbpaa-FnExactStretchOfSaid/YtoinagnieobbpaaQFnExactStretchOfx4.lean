-- A walk, made by walk.py, a program of this session's.
import Derived.Test.YtoinagnieobbpaaQFnExactStretchOfx0
import Derived.Test.YtoinagnieobbpaaQFnExactStretchOfx3
namespace Go.Proofs.Ytoinagnieobbpaa.QFnExactStretchOf
open Go.RowKit Go.Proofs.YtoinagnieobbpaaW.PrintWords Go.Proofs.YtoinagnieobbpaaW.PrintLast Go.Proofs.YtoinagnieobbpaaW.PrintMore
attribute [local go_sem] max2_int min2_int max_two min_two max_three min_three max_four min_four   -- for this text's walks alone
set_option linter.unusedVariables false
set_option linter.unusedSimpArgs false

/-! ### impl_lcpRows: function 41 -/
def impl_lcpRows.l0 : Nat → List Int → Int → List Int → List Int → Option (List Int)
 | 0, _, _, _, _ => none
 | k + 1, x0, x5, x7, x10 => if x5 < (x7.length : Int) then (if 0 ≤ (wrap64 (x5 - 1)) then (if (wrap64 (x5 - 1)) < (x7.length : Int) then (if 0 ≤ (rd x7 (wrap64 (x5 - 1))) then (if (rd x7 (wrap64 (x5 - 1))) ≤ (x0.length : Int) then (if 0 ≤ x5 then (if 0 ≤ (rd x7 x5) then (if (rd x7 x5) ≤ (x0.length : Int) then ((impl_common.f k (x0.drop ((rd x7 (wrap64 (x5 - 1))) : Int).toNat) (x0.drop ((rd x7 x5) : Int).toNat)).bind fun t205 => (if x5 < (x10.length : Int) then (impl_lcpRows.l0 k x0 (wrap64 (x5 + 1)) x7 (x10.set (x5 : Int).toNat t205)) else (none))) else (none)) else (none)) else (none)) else (none)) else (none)) else (none)) else (none)) else (some x10)
def impl_lcpRows.f (k : Nat) (l0 : List Int) : Option (List Int) := (impl_suffixRows.f k l0).bind fun t195 => (if 0 ≤ (t195.length : Int) then (if ((t195.length : Int) : Int).toNat ≤ 35184372088832 then (impl_lcpRows.l0 k l0 1 t195 (List.replicate ((t195.length : Int) : Int).toNat 0)) else (none)) else (none))
theorem impl_lcpRows.mono_l : ∀ k, (∀ y0 y1 y2 y3, LeO (impl_lcpRows.l0 k y0 y1 y2 y3) (impl_lcpRows.l0 (k + 1) y0 y1 y2 y3))
 | 0 => fun _ _ _ _ r h => by simp [impl_lcpRows.l0] at h
 | k + 1 => by
  have ih0 := impl_lcpRows.mono_l k
  ·intro y0 y1 y2 y3
   unfold impl_lcpRows.l0
   repeat' first|(with_reducible first|exact ih0 _ _ _ _|exact impl_common.mono _ _ _|exact impl_suffixRows.mono _ _|exact LeO.refl _|exact LeO.none _|refine LeO.ite ?_ ?_|refine LeO.bind ?_ (fun _ => ?_))|exact LeO.none _|refine LeO.ite ?_ ?_|refine LeO.bind ?_ (fun _ => ?_)
theorem impl_lcpRows.mono : ∀ a0 k, LeO (impl_lcpRows.f k a0) (impl_lcpRows.f (k + 1) a0) := by
 intro a0 k
 have ih0 := impl_lcpRows.mono_l k
 unfold impl_lcpRows.f
 repeat' first|(with_reducible first|exact ih0 _ _ _ _|exact impl_common.mono _ _ _|exact impl_suffixRows.mono _ _|exact LeO.refl _|exact LeO.none _|refine LeO.ite ?_ ?_|refine LeO.bind ?_ (fun _ => ?_))|exact LeO.none _|refine LeO.ite ?_ ?_|refine LeO.bind ?_ (fun _ => ?_)
def impl_lcpRows.T6 : Bool × List (List Nat × List Nat) := (true, [([], []), ([], []), ([], []), ([], []), ([], []), ([4], [4]), ([3, 5], [3, 5]), ([6], [6]), ([2, 7], [2, 7]), ([], []), ([], []), ([], []), ([10, 11], [10, 11]), ([12], [12]), ([9, 13], [9, 13]), ([8, 14], [8, 14]), ([0, 1, 0, 1, 2, 3, 4, 5, 6, 7, 8, 9, 10, 11, 12, 13, 14, 15], [0, 1]), ([16, 15, 15, 0, 1, 2, 3, 4, 5, 6, 7, 8, 9, 10, 11, 12, 13, 14, 15], [15, 16])])
def impl_lcpRows.B6 : List Nat := [0, 0, 0, 0, 0, 16, 56, 120, 252, 0, 0, 0, 3072, 7168, 15872, 32764, 65535, 131071]
theorem impl_lcpRows.tab6 : rtab .any (opsOf Try.f41 6) = impl_lcpRows.T6 := by kernel_rfl
theorem impl_lcpRows.bits6 : waitsOk impl_lcpRows.T6.2 impl_lcpRows.B6 = true := by kernel_rfl
abbrev impl_lcpRows.m0 : Array Bool := #[F,F,F,F,F,F,F,F,F,F,F,F,F,F,F,F,F,F]
abbrev impl_lcpRows.m1 : Array Bool := #[T,F,F,F,F,F,F,F,F,F,F,F,F,F,F,F,F,F]
abbrev impl_lcpRows.m2 : Array Bool := #[T,T,F,F,F,F,F,F,F,F,F,F,F,F,F,F,F,F]
abbrev impl_lcpRows.m3 : Array Bool := #[T,T,T,F,F,F,F,F,F,F,F,F,F,F,F,F,F,F]
abbrev impl_lcpRows.m4 : Array Bool := #[T,T,T,T,F,F,F,F,F,F,F,F,F,F,F,F,F,F]
abbrev impl_lcpRows.m5 : Array Bool := #[T,T,T,T,T,F,F,F,F,F,F,F,F,F,F,F,F,F]
abbrev impl_lcpRows.m6 : Array Bool := #[T,T,T,T,T,T,F,F,F,F,F,F,F,F,F,F,F,F]
abbrev impl_lcpRows.m7 : Array Bool := #[T,T,T,T,T,T,T,F,F,F,F,F,F,F,F,F,F,F]
abbrev impl_lcpRows.m8 : Array Bool := #[T,T,T,T,T,T,T,F,F,T,F,F,F,F,F,F,F,F]
abbrev impl_lcpRows.m9 : Array Bool := #[T,T,T,T,T,T,T,F,F,T,T,F,F,F,F,F,F,F]
abbrev impl_lcpRows.m10 : Array Bool := #[T,T,T,T,T,T,T,F,F,T,T,T,F,F,F,F,F,F]
abbrev impl_lcpRows.m11 : Array Bool := #[T,T,T,T,T,T,T,F,F,T,T,T,T,F,F,F,F,F]
abbrev impl_lcpRows.m12 : Array Bool := #[T,T,T,T,T,T,T,T,F,T,T,T,T,F,F,F,F,F]
abbrev impl_lcpRows.m13 : Array Bool := #[T,T,T,T,T,T,T,T,T,T,T,T,T,F,F,F,F,F]
abbrev impl_lcpRows.m14 : Array Bool := #[T,T,T,T,T,T,T,T,T,T,T,T,T,T,F,F,F,F]
abbrev impl_lcpRows.m15 : Array Bool := #[T,T,T,T,T,T,T,T,T,T,T,T,T,T,T,F,F,F]
abbrev impl_lcpRows.m16 : Array Bool := #[T,T,T,T,T,T,T,T,T,T,T,T,T,T,T,T,F,F]
abbrev impl_lcpRows.m17 : Array Bool := #[T,T,T,T,T,T,T,T,T,T,T,T,T,T,T,T,T,F]
abbrev impl_lcpRows.m18 : Array Bool := #[T,T,T,T,T,T,T,T,T,T,T,T,T,T,T,T,T,T]
set_option maxHeartbeats 8000000 in
set_option maxRecDepth 100000 in
theorem impl_lcpRows.calls (k : Nat) (A0 : Option Addr) (c0 : Nat) (l0 : List Int) (r : List Int) (w : World) (hr0 : Kd.C (Kd.int .u8) w A0 l0.length l0) (hc0 : l0.length ≤ c0) (h : impl_lcpRows.f k l0 = some r) :
  Calls Try.prog 41 #[.slice A0 l0.length c0] w fun e w' => ∃ v0_ : Value, e = .returned (v0_) ∧ Kd.R (Kd.int .i64) 3 w' w.heap.size (fun _ => True) v0_ r ∧ Below w.heap.size w w' := by
 have HR0:=mk0 hr0
 have HC0:=mk0 hc0
 clear hr0 hc0
 have HB:=mk0 (Below.refl w.heap.size w)
 have H:((impl_suffixRows.f k l0).bind fun t195=>(if 0 ≤ (t195.length:Int) then (if ((t195.length:Int):Int).toNat ≤ 35184372088832 then (impl_lcpRows.l0 k l0 1 t195 (List.replicate ((t195.length:Int):Int).toNat 0)) else (none)) else (none))) = some r:=h
 clear h
 replace H:=Option.bind_eq_some_iff.mp H
 obtain⟨t195,A20,H⟩:=H
 replace H:(if 0 ≤ (t195.length:Int) then (if ((t195.length:Int):Int).toNat ≤ 35184372088832 then (impl_lcpRows.l0 k l0 1 t195 (List.replicate ((t195.length:Int):Int).toNat 0)) else (none)) else (none)) = some r:=H
 have A2:=mk0 A20
 clear A20
 by_cases c3:0 ≤ (t195.length:Int)
 rotate_left
 ·rw [if_neg c3] at H
  exact absurd H (by simp)

 rw [if_pos c3] at H
 have c3b0:=eq_true c3
 have c3b1:decide (0 ≤ (t195.length:Int)) = true:=decide_eq_true c3
 clear c3
 by_cases c4:((t195.length:Int):Int).toNat ≤ 35184372088832
 rotate_left
 ·rw [if_neg c4] at H
  exact absurd H (by simp)
 rw [if_pos c4] at H
 have c4b0:=eq_true c4
 have c4b1:decide (((t195.length:Int):Int).toNat ≤ 35184372088832) = true:=decide_eq_true c4
 clear c4
 obtain⟨y198,hy198⟩:∃ y_:List Int,y_ = (List.replicate ((t195.length:Int):Int).toNat 0):=⟨_,rfl⟩
 replace H:(impl_lcpRows.l0 k l0 1 t195 y198) = some r:=by first|(rw [hy198];with_reducible exact H)|(have H2_:=(Option.bind_some _ _).symm.trans H;rw [hy198];with_reducible exact H2_)|(have H2_:=(Option.bind_some _ _).symm.trans H;with_reducible exact H2_)|with_reducible exact H|(rw [hy198];exact H)|exact H
 have Ny198:=mk0 hy198
 clear hy198
 have H':=mk0 H
 clear H
 go_enter Try.func41,Try.ntmps41
 go_wp2_with (first|((with_reducible refine gate_callee (f:=44) rfl ?_);refine goesL_ (some 7) rfl rfl Try.func44 (by kernel_rfl) rfl #[.slice A0 l0.length c0] rfl (by (try simp only [mA,mC,mN]);first|done|rfl|(simp only [List.length_drop,List.length_take];done)|(simp only [List.length_drop,List.length_take];rfl)) ?_;(with_reducible refine (impl_suffixRows.calls k _ _ l0 t195 _ ?side1 ?side2 A2.out).mono ?_);(case side1=>repeat (first|exact HR0.out|(with_reducible first|apply aC|apply nC|apply dC)));(case side2=>exact HC0.out);rintro e w5 ⟨v196,rfl,ho0,hb⟩;refine⟨_,rfl,?_⟩;have HO197:=mk0 (Kd.R_lower ho0 (kZ HB.out));replace HB:=mk0 (kS HB.out hb);(try clear hb);(try clear ho0);obtain⟨Ao6,co6,eo6⟩:=Kd.R_slice HO197.out;subst eo6)|((with_reducible refine gate_dst (N:=10) rfl ?_);refine Kd.R_make (Kd.int .i64) _ 3 rfl (N:=10) rfl 48 _ _ rfl (t195.length:Int) rfl rfl Try.underlying48 (.int .i64 0) 8 info3 rfl (by decide) (by omega) 0 (ok:=fun _=>True) (okp:=fun _=>True) rfl (fun _ hk=>hk) trivial (of_decide_eq_true (by first|(with_reducible assumption)|assumption)) (Nat.le_trans (Nat.mul_le_mul_right _ (of_decide_eq_true (by first|(with_reducible assumption)|assumption):(t195.length:Int).toNat ≤ 35184372088832)) (by omega)) (Below.refl _ _) (Nat.le_refl _) ?_;intro v199 w7 ho8 hb hg_ hnew_;clear hg_ hnew_;(first|rw [← Ny198.out] at ho8|(simp only [Int.reduceToNat] at ho8;rw [← Ny198.out] at ho8));have HO200:=mk0 (Kd.R_lower (Kd.R_new' ho8 (Kd.R_lt (rR HO197.out))) (kZ HB.out));replace HO197:=mk0 (Kd.R_elder' (rR HO197.out) (Kd.R_base ho8) hb);replace HB:=mk0 (kS HB.out hb);clear hb ho8))
 go_loopg [5] k (fun kq v5 w'=>∃ (x5_1:Int) (x10_1:List Int),v5 = .int .i64 x5_1 ∧ Aside0 (impl_lcpRows.l0 kq l0 x5_1 t195 x10_1 = some r) ∧ Aside0 (kq ≤ k) ∧ Aside0 (Kd.R (Kd.int .i64) 3 w' w.heap.size (fun k_=>some k_ ≠ (v199:Value).ownBlock) (.slice Ao6 t195.length co6) t195) ∧ Aside0 (Kd.R (Kd.int .i64) 3 w' w.heap.size (fun k_=>some k_ ≠ ((.slice Ao6 t195.length co6):Value).ownBlock) v199 x10_1) ∧ Aside0 (Below w.heap.size w w'))
 case atStart=>exact⟨(1),(y198),(by first|rfl|(simp;done)|(simp [*];done)),H',⟨Nat.le_refl _⟩,⟨rR (Kd.R_mono HO197.out (fun _ hk=>hk.2))⟩,⟨rR (Kd.R_mono HO200.out (fun _ hk=>hk.2))⟩,⟨kB HB.out⟩⟩
 case round =>
  clear H'
  try clear p2
  try clear c3
  try clear c3b0
  try clear c3b1
  try clear c4
  try clear c4b0
  try clear c4b1
  obtain⟨x5_1,x10_1,rfl,HA,HK1,HO_7,HO_10,HB⟩:=hrel
  cases gk with
  | zero=>exact absurd HA.out (by simp [impl_lcpRows.l0])
  | succ k1 =>
   have H:=HA.out
   clear HA
   simp only [impl_lcpRows.l0] at H
   by_cases c9:x5_1 < (t195.length:Int)
   rotate_left
   ·rw [if_neg c9] at H
    have c9b0:decide (x5_1 < (t195.length:Int)) = false:=decide_eq_false c9
    clear c9
    obtain rfl:=Option.some.inj H
    go_wp2
    go_ret
    exact⟨_,by first|rfl|(simp [errW_none,errW_some] <;> rfl)|(simp [*,errW_none,errW_some] <;> rfl),rR (Kd.R_mono HO_10.out (fun _ hk=>trivial)),kB HB.out⟩
   rw [if_pos c9] at H
   have c9b0:decide (x5_1 < (t195.length:Int)) = true:=decide_eq_true c9
   clear c9
   obtain⟨ji10,hji10⟩:∃ j_:Int,(wrap64 (x5_1 - 1)) = j_:=⟨_,rfl⟩
   replace H:(if 0 ≤ (ji10) then (if (ji10) < (t195.length:Int) then (if 0 ≤ (rd t195 (ji10)) then (if (rd t195 (ji10)) ≤ (l0.length:Int) then (if 0 ≤ x5_1 then (if 0 ≤ (rd t195 x5_1) then (if (rd t195 x5_1) ≤ (l0.length:Int) then ((impl_common.f k1 (l0.drop ((rd t195 (ji10)):Int).toNat) (l0.drop ((rd t195 x5_1):Int).toNat)).bind fun t205=>(if x5_1 < (x10_1.length:Int) then (impl_lcpRows.l0 k1 l0 (wrap64 (x5_1 + 1)) t195 (x10_1.set (x5_1:Int).toNat t205)) else (none))) else (none)) else (none)) else (none)) else (none)) else (none)) else (none)) else (none)) = some r:=by first|(rw [hji10] at H;exact H)|(simp only [hji10] at H ⊢;exact H)
   have hji10w:(IntKind.i64.wrap (x5_1 - 1)) = ji10:=(i64_w _).trans hji10
   by_cases c11:0 ≤ (ji10)
   rotate_left
   ·rw [if_neg c11] at H
    exact absurd H (by simp)
   rw [if_pos c11] at H
   have c11b0:decide (0 ≤ (ji10)) = true:=decide_eq_true c11
   clear c11
   by_cases c12:(ji10) < (t195.length:Int)
   rotate_left
   ·rw [if_neg c12] at H
    exact absurd H (by simp)
   rw [if_pos c12] at H
   have c12b0:decide ((ji10) < (t195.length:Int)) = true:=decide_eq_true c12
   clear c12
   by_cases c13:0 ≤ (rd t195 (ji10))
   rotate_left
   ·rw [if_neg c13] at H
    exact absurd H (by simp)
   rw [if_pos c13] at H
   have c13b0:=eq_true c13
   have c13b1:decide (0 ≤ (rd t195 (ji10))) = true:=decide_eq_true c13
   clear c13
   by_cases c14:(rd t195 (ji10)) ≤ (l0.length:Int)
   rotate_left
   ·rw [if_neg c14] at H
    exact absurd H (by simp)
   rw [if_pos c14] at H
   have c14b0:=eq_true c14
   have c14b1:decide ((rd t195 (ji10)) ≤ (l0.length:Int)) = true:=decide_eq_true c14
   clear c14
   by_cases c15:0 ≤ x5_1
   rotate_left
   ·rw [if_neg c15] at H
    exact absurd H (by simp)
   rw [if_pos c15] at H
   have c15b0:decide (0 ≤ x5_1) = true:=decide_eq_true c15
   clear c15
   by_cases c16:0 ≤ (rd t195 x5_1)
   rotate_left
   ·rw [if_neg c16] at H
    exact absurd H (by simp)
   rw [if_pos c16] at H
   have c16b0:=eq_true c16
   have c16b1:decide (0 ≤ (rd t195 x5_1)) = true:=decide_eq_true c16
   clear c16
   by_cases c17:(rd t195 x5_1) ≤ (l0.length:Int)
   rotate_left
   ·rw [if_neg c17] at H
    exact absurd H (by simp)
   rw [if_pos c17] at H
   have c17b0:=eq_true c17
   have c17b1:decide ((rd t195 x5_1) ≤ (l0.length:Int)) = true:=decide_eq_true c17
   clear c17
   replace H:=Option.bind_eq_some_iff.mp H
   obtain⟨t205,A180,H⟩:=H
   replace H:(if x5_1 < (x10_1.length:Int) then (impl_lcpRows.l0 k1 l0 (wrap64 (x5_1 + 1)) t195 (x10_1.set (x5_1:Int).toNat t205)) else (none)) = some r:=H
   have A18:=mk0 A180
   clear A180
   by_cases c19:x5_1 < (x10_1.length:Int)
   rotate_left
   ·rw [if_neg c19] at H
    exact absurd H (by simp)
   rw [if_pos c19] at H
   have c19b0:decide (x5_1 < (x10_1.length:Int)) = true:=decide_eq_true c19
   clear c19
   obtain⟨y206,hy206⟩:∃ y_:List Int,y_ = (x10_1.set (x5_1:Int).toNat t205):=⟨_,rfl⟩
   replace H:(impl_lcpRows.l0 k1 l0 (wrap64 (x5_1 + 1)) t195 y206) = some r:=by first|(rw [hy206];with_reducible exact H)|(have H2_:=(Option.bind_some _ _).symm.trans H;rw [hy206];with_reducible exact H2_)|(have H2_:=(Option.bind_some _ _).symm.trans H;with_reducible exact H2_)|with_reducible exact H|(rw [hy206];exact H)|exact H
   have Ny206:=mk0 hy206
   clear hy206
   have H':=mk0 H
   clear H
   try go_wp2
   replace HO_7:=mk0 (dR HO_7.out)
   replace HO_10:=mk0 (dR HO_10.out)
   replace HB:=mk0 (dZ HB.out)
   have p201:0 ≤ ((ji10):Int):=of_decide_eq_true (by first|(with_reducible assumption)|assumption)
   have q201:(ji10) < (t195.length:Int):=of_decide_eq_true (by first|(with_reducible assumption)|assumption)
   obtain⟨ad201,e201,hx201_0⟩:=Kd.at_int (Kd.R_reads' HO_7.out).2.2 (ji10) p201 q201
   cases e201
   replace p201:=eq_true p201
   replace q201:=eq_true q201
   obtain⟨i022,hi022,_,hsz22,_⟩:=info_parts info5
   obtain⟨A22,hcut22,hA22,hC22⟩:=print_drop_of (P:=Try.prog) (Value.int .u8) 0 22 5 .i64 Try.underlying22 hi022 hsz22 A0 c0 l0 (rd t195 (ji10)) (of_decide_eq_true (by first|(with_reducible assumption)|assumption)) (of_decide_eq_true (by first|(with_reducible assumption)|assumption)) HC0.out
   have HR202:=mk0 (Kd.C_of_reads (h1:=fun _=>rfl) (hA22 _ (Kd.reads_of_C HR0.out)))
   have HC202:=mk0 hC22
   clear hA22 hC22 hi022 hsz22
   have p203:0 ≤ (x5_1:Int):=of_decide_eq_true (by first|(with_reducible assumption)|assumption)
   have q203:x5_1 < (t195.length:Int):=of_decide_eq_true (by first|(with_reducible assumption)|assumption)
   obtain⟨ad203,e203,hx203_0⟩:=Kd.at_int (Kd.R_reads' HO_7.out).2.2 x5_1 p203 q203
   obtain rfl:ad201 = ad203:=(by injection e203)
   replace p203:=eq_true p203
   replace q203:=eq_true q203
   obtain⟨i023,hi023,_,hsz23,_⟩:=info_parts info5
   obtain⟨A23,hcut23,hA23,hC23⟩:=print_drop_of (P:=Try.prog) (Value.int .u8) 0 22 5 .i64 Try.underlying22 hi023 hsz23 A0 c0 l0 (rd t195 x5_1) (of_decide_eq_true (by first|(with_reducible assumption)|assumption)) (of_decide_eq_true (by first|(with_reducible assumption)|assumption)) HC0.out
   have HR204:=mk0 (Kd.C_of_reads (h1:=fun _=>rfl) (hA23 _ (Kd.reads_of_C HR0.out)))
   have HC204:=mk0 hC23
   clear hA23 hC23 hi023 hsz23
   refine start_ (n:=18) (S:=fun w'=>w'.cell? (ad201.add ((ji10)).toNat) = some (.int .i64 (rd t195 (ji10))) ∧ w'.cell? (ad201.add (x5_1).toNat) = some (.int .i64 (rd t195 x5_1))) (ds:=[17]) impl_lcpRows.m0 (by kernel_rfl) rfl rfl ⟨hx201_0,hx203_0⟩ (fun hHeld=>?_);refine with_tabW impl_lcpRows.tab6 impl_lcpRows.bits6 (fun HT_ HW_=>?_)
   generalize wr.drew = w21 at HO_7 HO_10 HB HR202 HR204 hx201_0 hx203_0 hHeld ⊢
   refine pure_ (i:=0) (N:=some 17) (v:=?_) (a':=?_) impl_lcpRows.m1 rfl rfl (any_of HT_.out (by kernel_rfl)) (fun _ _ _ h=>h) (Or.inl ⟨by rfl,?_⟩) ?_ ?_
   rotate_left
   ·intro w'
    go_simp
    with_reducible rfl
   rotate_left
   ·simp only [Act.put,sA,sO,sS,i64_w,i32_w]
    rfl
   refine pure_ (i:=1) (N:=some 18) (v:=?_) (a':=?_) impl_lcpRows.m2 rfl rfl (any_of HT_.out (by kernel_rfl)) (fun _ _ _ h=>h) (Or.inl ⟨by rfl,?_⟩) ?_ ?_
   rotate_left
   ·intro w'
    go_simp
    with_reducible rfl
   rotate_left
   ·simp only [Act.put,sA,sO,sS,i64_w,i32_w]
    rfl
   refine pure_ (i:=2) (N:=some 19) (v:=?_) (a':=?_) impl_lcpRows.m3 rfl rfl (any_of HT_.out (by kernel_rfl)) (fun _ _ _ h=>h) (Or.inl ⟨by rfl,?_⟩) ?_ ?_
   rotate_left
   ·intro w'
    go_simp
    with_reducible rfl
   rotate_left
   ·simp only [Act.put,sA,sO,sS,i64_w,i32_w]
    rfl
   refine pure_ (i:=3) (N:=some 20) (v:=?_) (a':=?_) impl_lcpRows.m4 rfl rfl (any_of HT_.out (by kernel_rfl)) (fun _ _ _ h=>h) (Or.inl ⟨by rfl,?_⟩) ?_ ?_
   rotate_left
   ·intro w'
    go_simp
    with_reducible rfl
   rotate_left
   ·simp only [Act.put,sA,sO,sS,i64_w,i32_w]
    rfl
   refine pure_ (i:=4) (N:=some 21) (v:=?_) (a':=?_) impl_lcpRows.m5 rfl rfl (any_of HT_.out (by kernel_rfl)) (fun _ _ _ h=>h) (Or.inl ⟨by rfl,?_⟩) ?_ ?_
   rotate_left
   ·intro w'
    go_simp
    with_reducible rfl
   rotate_left
   ·simp only [Act.put,sA,sO,sS,i64_w,i32_w]
    rfl
   refine pure_ (i:=5) (N:=some 22) (v:=?_) (a':=?_) impl_lcpRows.m6 rfl rfl (any_of HT_.out (by kernel_rfl)) (fun _ _ _ h=>h) (Or.inl ⟨by rfl,?_⟩) ?_ ?_
   rotate_left
   ·intro w'
    go_simp
    with_reducible rfl
   rotate_left
   ·simp only [Act.put,sA,sO,sS,i64_w,i32_w]
    rfl
   refine pure_ (i:=6) (N:=some 23) (v:=?_) (a':=?_) impl_lcpRows.m7 rfl rfl (any_of HT_.out (by kernel_rfl)) (fun _ _ _ h=>h) (Or.inl ⟨by rfl,?_⟩) ?_ ?_
   rotate_left
   ·intro w'
    go_simp
    with_reducible rfl
   rotate_left
   ·simp only [Act.put,sA,sO,sS,i64_w,i32_w]
    rfl
   refine pure_ (i:=9) (N:=some 26) (v:=?_) (a':=?_) impl_lcpRows.m8 rfl rfl (any_of HT_.out (by kernel_rfl)) (fun _ _ _ h=>h) (Or.inl ⟨by rfl,?_⟩) ?_ ?_
   rotate_left
   ·intro w'
    go_simp
    with_reducible rfl
   rotate_left
   ·simp only [Act.put,sA,sO,sS,i64_w,i32_w]
    rfl
   refine pure_ (i:=10) (N:=some 27) (v:=?_) (a':=?_) impl_lcpRows.m9 rfl rfl (any_of HT_.out (by kernel_rfl)) (fun _ _ _ h=>h) (Or.inl ⟨by rfl,?_⟩) ?_ ?_
   rotate_left
   ·intro w'
    go_simp
    with_reducible rfl
   rotate_left
   ·simp only [Act.put,sA,sO,sS,i64_w,i32_w]
    rfl
   refine pure_ (i:=11) (N:=some 28) (v:=?_) (a':=?_) impl_lcpRows.m10 rfl rfl (any_of HT_.out (by kernel_rfl)) (fun _ _ _ h=>h) (Or.inl ⟨by rfl,?_⟩) ?_ ?_
   rotate_left
   ·intro w'
    go_simp
    with_reducible rfl
   rotate_left
   ·simp only [Act.put,sA,sO,sS,i64_w,i32_w]
    rfl
   refine pure_ (i:=12) (N:=some 29) (v:=?_) (a':=?_) impl_lcpRows.m11 rfl rfl (any_of HT_.out (by kernel_rfl)) (fun _ _ _ h=>h) (Or.inl ⟨by rfl,?_⟩) ?_ ?_
   rotate_left
   ·intro w'
    go_simp
    with_reducible rfl
   rotate_left
   ·simp only [Act.put,sA,sO,sS,i64_w,i32_w]
    rfl
   refine take_ (i:=7) (N:=some 24) (v:=?_) (a':=?_) impl_lcpRows.m12 rfl rfl (take_ofW HT_.out HW_.out (by kernel_rfl)) (fun _ _ _ h=>h) (Or.inl ⟨by rfl,?_⟩) hHeld ?_ ?_
   rotate_left
   ·rintro w' ⟨s0,s1⟩
    go_simp
    with_reducible rfl
   rotate_left
   ·simp only [Act.put,sA,sO,sS,i64_w,i32_w]
    rfl
   refine pure_ (i:=8) (N:=some 25) (v:=?_) (a':=?_) impl_lcpRows.m13 rfl rfl (any_of HT_.out (by kernel_rfl)) (fun _ _ _ h=>h) (Or.inl ⟨by rfl,?_⟩) ?_ ?_
   rotate_left
   ·intro w'
    go_simp
    with_reducible rfl
   rotate_left
   ·simp only [Act.put,sA,sO,sS,i64_w,i32_w]
    rfl
   refine take_ (i:=13) (N:=some 30) (v:=?_) (a':=?_) impl_lcpRows.m14 rfl rfl (take_ofW HT_.out HW_.out (by kernel_rfl)) (fun _ _ _ h=>h) (Or.inl ⟨by rfl,?_⟩) hHeld ?_ ?_
   rotate_left
   ·rintro w' ⟨s0,s1⟩
    go_simp
    with_reducible rfl
   rotate_left
   ·simp only [Act.put,sA,sO,sS,i64_w,i32_w]
    rfl
   refine pure_ (i:=14) (N:=some 31) (v:=?_) (a':=?_) impl_lcpRows.m15 rfl rfl (any_of HT_.out (by kernel_rfl)) (fun _ _ _ h=>h) (Or.inl ⟨by rfl,?_⟩) ?_ ?_
   rotate_left
   ·intro w'
    go_simp
    with_reducible rfl
   rotate_left
   ·simp only [Act.put,sA,sO,sS,i64_w,i32_w]
    rfl
   refine one_ (i:=15) (N:=some 32) impl_lcpRows.m16 rfl rfl (one_of HT_.out (by kernel_rfl)) (by decide) (fun K hK=>?_)
   refine goes_ Try.func63 (by kernel_rfl) rfl #[.slice A22 (l0.drop ((rd t195 (ji10)):Int).toNat).length (c0 - (rd t195 (ji10)).toNat),.slice A23 (l0.drop ((rd t195 x5_1):Int).toNat).length (c0 - (rd t195 x5_1).toNat)] (by rfl) rfl rfl (by (try simp only [mA,mC,mN]);first|done|(rw [show (l0.drop ((rd t195 (ji10)):Int).toNat).length = (l0.length - (rd t195 (ji10)).toNat) from List.length_drop] <;> rfl)|(rw [show (l0.drop ((rd t195 x5_1):Int).toNat).length = (l0.length - (rd t195 x5_1).toNat) from List.length_drop] <;> rfl)|(simp only [hji10];rfl)|rfl|(simp only [List.length_drop,List.length_take];done)|(simp only [List.length_drop,List.length_take];rfl)) ?_
   with_reducible refine (impl_common.calls k1 _ _ (l0.drop ((rd t195 (ji10)):Int).toNat) _ _ (l0.drop ((rd t195 x5_1):Int).toNat) t205 _ ?side1 ?side2 ?side3 ?side4 A18.out).mono ?_
   (case side1=>exact kC (Kd.C_below HR202.out HB.out))
   (case side2=>exact HC202.out)
   (case side3=>exact kC (Kd.C_below HR204.out HB.out))
   (case side4=>exact HC204.out)
   rintro e w24 ⟨rfl,hb⟩
   have HS0_:=(hb.cell (World.block_lt_of_cell? _ _ (hHeld.1))).trans (hHeld.1)
   have HS1_:=(hb.cell (World.block_lt_of_cell? _ _ (hHeld.2))).trans (hHeld.2)
   refine⟨_,rfl,?_⟩
   replace HO_7:=mk0 (bR HO_7.out hb)
   replace HO_10:=mk0 (bR HO_10.out hb)
   replace HB:=mk0 (kS HB.out hb)
   (try clear hb)
   have p20:0 ≤ (x5_1:Int):=of_decide_eq_true (by first|(with_reducible assumption)|assumption)
   have q20:(x5_1:Int) < ((x10_1.length:Int):Int):=of_decide_eq_true (by first|(with_reducible assumption)|assumption)
   obtain⟨go20,co20,eo20,gb20,gl20,cl20,HG20⟩:=Kd.R_form HO_10.out (by omega)
   (first|cases eo20|(injection eo20 with ea_ en_ ec_;(first|subst ea_|(injection ea_ with ea_;subst ea_));subst ec_;clear en_))
   have GB20:=mk0 gb20
   have GG20:=mk0 HG20
   clear gb20 gl20 HG20
   obtain⟨hx20_0,hf20_0⟩:=Kd.R_celln 0 HO_10.out (x5_1:Int) p20 q20
   replace p20:=eq_true p20
   replace q20:=eq_true q20
   have HP25:=Kd.R_putn HO_10.out (x5_1:Int) t205
   rw [← Ny206.out] at HP25
   have HQ25:=mk0 HP25
   clear HP25
   refine hK.out _ _ ⟨HS0_,HS1_⟩ (fun hHeld=>?_)
   clear hK K
   refine norm_ (a':=?_) ?_ ?_
   rotate_left
   ·show Act.put _ (some 32) _ = _
    simp only [Act.put,sA,sO,sS,i64_w,i32_w]
    rfl
   refine pure_ (i:=16) (N:=some 33) (v:=?_) (a':=?_) impl_lcpRows.m17 rfl rfl (any_of HT_.out (by kernel_rfl)) (fun _ _ _ h=>h) (Or.inl ⟨by rfl,?_⟩) ?_ ?_
   rotate_left
   ·intro w'
    go_simp
    with_reducible rfl
   rotate_left
   ·simp only [Act.put,sA,sO,sS,i64_w,i32_w]
    rfl
   refine last_ (i:=17) (N:=none) impl_lcpRows.m18 rfl rfl (one_of HT_.out (by kernel_rfl)) (by decide) (fun K hK=>?_)
   refine skip_ (w1:=?_) (by rfl) rfl ?_ ?_
   rotate_left
   ·go_simp
    rfl
   refine hK.out _ _ ?_
   clear hK K
   refine done_ (done_of HT_.out (by kernel_rfl)) ?_
   try go_wp2
   go_roundg k1
   case measure=>have:=HK1.out;omega
   case rel=>exact⟨(wrap64 (x5_1 + 1)),(y206),(by first|rfl|(simp;done)|(simp [*];done)),H',⟨by have:=HK1.out;omega⟩,⟨by (with_reducible repeat (first|apply aR|apply nR|apply dR));exact Kd.R_mono (Kd.R_far (p:=⟨go20,(x5_1:Int).toNat,none⟩) (Kd.R_mono HO_7.out (fun k_ hk=>(⟨hk,fun e_=>hk (by rw [e_];rfl)⟩:_ ∧ k_ ≠ go20))) (fun _ hk=>hk.2) (.int .i64 t205)) (fun _ hk=>hk.1)⟩,⟨rR HQ25.out⟩,⟨kB HB.out⟩⟩
/-! ### impl_TextOk: function 39 -/
def impl_TextOk.f (l0 : List Int) : Option (Bool) := some (decide ((l0.length : Int) ≤ 300))
set_option maxHeartbeats 8000000 in
set_option maxRecDepth 100000 in
theorem impl_TextOk.calls (A0 : Option Addr) (c0 : Nat) (l0 : List Int) (r : Bool) (w : World) (hr0 : Kd.C (Kd.int .u8) w A0 l0.length l0) (hc0 : l0.length ≤ c0) (h : impl_TextOk.f l0 = some r) :
  Calls Try.prog 39 #[.slice A0 l0.length c0] w fun e w' => e = .returned (.bool r) ∧ Drawn0 w w' := by
 have HR0:=mk0 hr0
 have HC0:=mk0 hc0
 clear hr0 hc0
 have H:(some (decide ((l0.length:Int) ≤ 300))) = some r:=h
 clear h
 obtain rfl:=Option.some.inj H
 go_enter Try.func39,Try.ntmps39
 go_wp2
 go_ret
 exact⟨by first|rfl|(simp;done)|(simp [*];done),by repeat (first|exact Drawn0.refl _|apply Drawn0.step)⟩

-- NOT PRINTED: function 81 (bytealg_Compare)


/-! ### bytes_Compare: function 67 (by hand) -/
def bytes_Compare.f (l0 : List Int) (l1 : List Int) : Option (Int) := if (l0.all Fv.isB && l1.all Fv.isB) = true then some (Fv.cmpB l0 l1) else none
theorem bytes_Compare.calls (A0 : Option Addr) (c0 : Nat) (l0 : List Int) (A1 : Option Addr) (c1 : Nat) (l1 : List Int) (r : Int) (w : World) (hr0 : Kd.C (Kd.int .u8) w A0 l0.length l0) (hc0 : l0.length ≤ c0) (hr1 : Kd.C (Kd.int .u8) w A1 l1.length l1) (hc1 : l1.length ≤ c1) (h : bytes_Compare.f l0 l1 = some r) :
    Calls Try.prog 67 #[.slice A0 l0.length c0, .slice A1 l1.length c1] w fun e w' => e = .returned (.int .i64 r) ∧ Drawn0 w w' := by
  unfold bytes_Compare.f at h
  split at h
  · rename_i hc
    obtain rfl := Option.some.inj h
    simp only [Bool.and_eq_true, List.all_eq_true, decide_eq_true_eq, Fv.isB] at hc
    exact Fv.bytesCompare A0 A1 c0 c1 l0 l1 w hr0 hr1 hc.1 hc.2
  · exact absurd h (by simp)

/-! ### bytes_Equal: function 85 -/
def bytes_Equal.f (l0 : List Int) (l1 : List Int) : Option (Bool) := some ((strOfNums l0).toList == (strOfNums l1).toList)
set_option maxHeartbeats 8000000 in
set_option maxRecDepth 100000 in
theorem bytes_Equal.calls (A0 : Option Addr) (c0 : Nat) (l0 : List Int) (A1 : Option Addr) (c1 : Nat) (l1 : List Int) (r : Bool) (w : World) (hr0 : Kd.C (Kd.int .u8) w A0 l0.length l0) (hc0 : l0.length ≤ c0) (hr1 : Kd.C (Kd.int .u8) w A1 l1.length l1) (hc1 : l1.length ≤ c1) (h : bytes_Equal.f l0 l1 = some r) :
  Calls Try.prog 85 #[.slice A0 l0.length c0, .slice A1 l1.length c1] w fun e w' => e = .returned (.bool r) ∧ Drawn0 w w' := by
 have HR0:=mk0 hr0
 have HC0:=mk0 hc0
 clear hr0 hc0
 have HR1:=mk0 hr1
 have HC1:=mk0 hc1
 clear hr1 hc1
 have H:(some ((strOfNums l0).toList == (strOfNums l1).toList)) = some r:=h
 clear h
 obtain rfl:=Option.some.inj H
 have hcv3:=Kd.C_string (P:=Try.prog) (A:=A0) (c:=c0) Try.underlying22 Try.underlying5 Try.underlying9 HR0.out
 have hcv4:=Kd.C_string (P:=Try.prog) (A:=A1) (c:=c1) Try.underlying22 Try.underlying5 Try.underlying9 HR1.out
 go_enter Try.func85,Try.ntmps85
 go_wp2
 go_ret
 exact⟨by first|rfl|(simp;done)|(simp [*];done),by repeat (first|exact Drawn0.refl _|apply Drawn0.step)⟩

/-! ### bytes_HasPrefix: function 83 -/
def bytes_HasPrefix.f (l0 : List Int) (l1 : List Int) : Option (Bool) := if (l0.length : Int) ≥ (l1.length : Int) then (if 0 ≤ (l1.length : Int) then (if (l1.length : Int) ≤ (l0.length : Int) then ((bytes_Equal.f (l0.take ((l1.length : Int) : Int).toNat) l1).bind fun t208 => (some t208)) else (none)) else (none)) else (some false)
set_option maxHeartbeats 8000000 in
set_option maxRecDepth 100000 in
theorem bytes_HasPrefix.calls (A0 : Option Addr) (c0 : Nat) (l0 : List Int) (A1 : Option Addr) (c1 : Nat) (l1 : List Int) (r : Bool) (w : World) (hr0 : Kd.C (Kd.int .u8) w A0 l0.length l0) (hc0 : l0.length ≤ c0) (hr1 : Kd.C (Kd.int .u8) w A1 l1.length l1) (hc1 : l1.length ≤ c1) (h : bytes_HasPrefix.f l0 l1 = some r) :
  Calls Try.prog 83 #[.slice A0 l0.length c0, .slice A1 l1.length c1] w fun e w' => e = .returned (.bool r) ∧ Drawn0 w w' := by
 have HR0:=mk0 hr0
 have HC0:=mk0 hc0
 clear hr0 hc0
 have HR1:=mk0 hr1
 have HC1:=mk0 hc1
 clear hr1 hc1
 have H:(if (l0.length:Int) ≥ (l1.length:Int) then (if 0 ≤ (l1.length:Int) then (if (l1.length:Int) ≤ (l0.length:Int) then ((bytes_Equal.f (l0.take ((l1.length:Int):Int).toNat) l1).bind fun t208=>(some t208)) else (none)) else (none)) else (some false)) = some r:=h
 clear h
 by_cases c3:(l0.length:Int) ≥ (l1.length:Int)
 ·rw [if_pos c3] at H
  have c3b0:decide ((l1.length:Int) ≤ (l0.length:Int)) = true:=decide_eq_true c3
  have c3b1:decide (l1.length ≤ l0.length) = true:=decide_eq_true (Int.ofNat_le.mp c3)
  clear c3
  by_cases c4:0 ≤ (l1.length:Int)
  ·rw [if_pos c4] at H
   have c4b0:=eq_true c4
   have c4b1:decide (0 ≤ (l1.length:Int)) = true:=decide_eq_true c4
   clear c4
   by_cases c5:(l1.length:Int) ≤ (l0.length:Int)
   ·rw [if_pos c5] at H
    have c5b0:=eq_true c5
    have c5b1:decide ((l1.length:Int) ≤ (l0.length:Int)) = true:=decide_eq_true c5
    clear c5
    replace H:=Option.bind_eq_some_iff.mp H
    obtain⟨t208,A60,H⟩:=H
    replace H:(some t208) = some r:=H
    have A6:=mk0 A60
    clear A60
    obtain rfl:=Option.some.inj H
    obtain⟨i07,hi07,_,hsz7,_⟩:=info_parts info5
    obtain⟨hcut7,hA7,hC7⟩:=print_take_of (P:=Try.prog) (Value.int .u8) 0 22 5 .i64 Try.underlying22 hi07 hsz7 A0 c0 l0 (l1.length:Int) (of_decide_eq_true (by first|(with_reducible assumption)|assumption)) (of_decide_eq_true (by first|(with_reducible assumption)|assumption)) HC0.out
    have HR207:=mk0 (Kd.C_of_reads (h1:=fun _=>rfl) (hA7 _ (Kd.reads_of_C HR0.out)))
    have HC207:=mk0 hC7
    clear hA7 hC7 hi07 hsz7
    go_enter Try.func83,Try.ntmps83
    go_wp2_with (first|(go_at_call 85;refine calls_of_args (args':=#[.slice A0 (l0.take ((l1.length:Int):Int).toNat).length c0,.slice A1 l1.length c1]) (by first|(rw [show (l0.take ((l1.length:Int):Int).toNat).length = (l1.length:Int).toNat from (by rw [List.length_take];have h_:((l1.length:Int):Int) ≤ (l0.length:Int):=of_decide_eq_true (by first|(with_reducible assumption)|assumption);omega)] <;> rfl)|rfl|(simp only [List.length_drop,List.length_take];done)|(simp only [List.length_drop,List.length_take];rfl)) ?_;(with_reducible refine (bytes_Equal.calls _ _ (l0.take ((l1.length:Int):Int).toNat) _ _ l1 t208 _ ?side1 ?side2 ?side3 ?side4 A6.out).mono ?_);(case side1=>repeat (first|exact HR207.out|(with_reducible first|apply aC|apply nC|apply dC)));(case side2=>exact HC207.out);(case side3=>repeat (first|exact HR1.out|(with_reducible first|apply aC|apply nC|apply dC)));(case side4=>exact HC1.out);rintro e w' ⟨rfl,⟨nd,rfl⟩⟩))
    go_ret
    exact⟨by first|rfl|(simp;done)|(simp [*];done),by repeat (first|exact Drawn0.refl _|apply Drawn0.step)⟩
   ·rw [if_neg c5] at H
    exact absurd H (by simp)
  ·rw [if_neg c4] at H
   exact absurd H (by simp)
 ·rw [if_neg c3] at H
  have c3b0:decide ((l1.length:Int) ≤ (l0.length:Int)) = false:=decide_eq_false c3
  have c3b1:decide (l1.length ≤ l0.length) = false:=decide_eq_false (fun h=>c3 (Int.ofNat_le.mpr h))
  clear c3
  obtain rfl:=Option.some.inj H
  go_enter Try.func83,Try.ntmps83
  go_wp2
  go_ret
  exact⟨by first|rfl|(simp;done)|(simp [*];done),by repeat (first|exact Drawn0.refl _|apply Drawn0.step)⟩

/-! ### impl_rowsOf: function 69 -/
def impl_rowsOf.l0 : Nat → List Int → List Int → Int → Int → Int → Int → Option (Int × Int)
 | 0, _, _, _, _, _, _ => none
 | k + 1, x0, x1, x6, x7, x11, x12 => if x12 < x11 then (if 0 ≤ x12 then (if x12 ≤ (x0.length : Int) then ((bytes_HasPrefix.f (x0.drop (x12 : Int).toNat) x1).bind fun t210 => (if t210 = true then (impl_rowsOf.l0 k x0 x1 x6 (wrap64 (x7 + 1)) x11 (wrap64 (x12 + 1))) else ((bytes_Compare.f (x0.drop (x12 : Int).toNat) x1).bind fun t212 => (if t212 < 0 then (impl_rowsOf.l0 k x0 x1 (wrap64 (x6 + 1)) x7 x11 (wrap64 (x12 + 1))) else (impl_rowsOf.l0 k x0 x1 x6 x7 x11 (wrap64 (x12 + 1))))))) else (none)) else (none)) else (some (x6, wrap64 (x6 + x7)))
def impl_rowsOf.f (k : Nat) (l0 : List Int) (l1 : List Int) : Option (Int × Int) := impl_rowsOf.l0 k l0 l1 0 0 (wrap64 ((l0.length : Int) + 1)) 0
theorem impl_rowsOf.mono_l : ∀ k, (∀ y0 y1 y2 y3 y4 y5, LeO (impl_rowsOf.l0 k y0 y1 y2 y3 y4 y5) (impl_rowsOf.l0 (k + 1) y0 y1 y2 y3 y4 y5))
 | 0 => fun _ _ _ _ _ _ r h => by simp [impl_rowsOf.l0] at h
 | k + 1 => by
  have ih0 := impl_rowsOf.mono_l k
  ·intro y0 y1 y2 y3 y4 y5
   unfold impl_rowsOf.l0
   repeat' first|(with_reducible first|exact ih0 _ _ _ _ _ _|exact LeO.refl _|exact LeO.none _|refine LeO.ite ?_ ?_|refine LeO.bind ?_ (fun _ => ?_))|exact LeO.none _|refine LeO.ite ?_ ?_|refine LeO.bind ?_ (fun _ => ?_)
theorem impl_rowsOf.mono : ∀ a0 a1 k, LeO (impl_rowsOf.f k a0 a1) (impl_rowsOf.f (k + 1) a0 a1) := by
 intro a0 a1 k
 have ih0 := impl_rowsOf.mono_l k
 unfold impl_rowsOf.f
 repeat' first|(with_reducible first|exact ih0 _ _ _ _ _ _|exact LeO.refl _|exact LeO.none _|refine LeO.ite ?_ ?_|refine LeO.bind ?_ (fun _ => ?_))|exact LeO.none _|refine LeO.ite ?_ ?_|refine LeO.bind ?_ (fun _ => ?_)
set_option maxHeartbeats 8000000 in
set_option maxRecDepth 100000 in
theorem impl_rowsOf.calls (k : Nat) (A0 : Option Addr) (c0 : Nat) (l0 : List Int) (A1 : Option Addr) (c1 : Nat) (l1 : List Int) (r1 : Int) (r2 : Int) (w : World) (hr0 : Kd.C (Kd.int .u8) w A0 l0.length l0) (hc0 : l0.length ≤ c0) (hr1 : Kd.C (Kd.int .u8) w A1 l1.length l1) (hc1 : l1.length ≤ c1) (h : impl_rowsOf.f k l0 l1 = some (r1, r2)) :
  Calls Try.prog 69 #[.slice A0 l0.length c0, .slice A1 l1.length c1] w fun e w' => e = .returned (.tuple #[.int .i64 r1, .int .i64 r2]) ∧ Drawn0 w w' := by
 have HR0:=mk0 hr0
 have HC0:=mk0 hc0
 clear hr0 hc0
 have HR1:=mk0 hr1
 have HC1:=mk0 hc1
 clear hr1 hc1
 have H:(impl_rowsOf.l0 k l0 l1 0 0 (wrap64 ((l0.length:Int) + 1)) 0) = some (r1,r2):=h
 clear h
 have H':=mk0 H
 clear H
 go_enter Try.func69,Try.ntmps69
 go_wp2
 go_loopg [6,7,12] k (fun kq v6 v7 v12 w'=>∃ (x6_1:Int) (x7_1:Int) (x12_1:Int),v6 = .int .i64 x6_1 ∧ v7 = .int .i64 x7_1 ∧ v12 = .int .i64 x12_1 ∧ Aside0 (impl_rowsOf.l0 kq l0 l1 x6_1 x7_1 (wrap64 ((l0.length:Int) + 1)) x12_1 = some (r1,r2)) ∧ Aside0 (kq ≤ k) ∧ Drawn0 w w')
 case atStart=>exact⟨(0),(0),(0),(by first|rfl|(simp;done)|(simp [*];done)),(by first|rfl|(simp;done)|(simp [*];done)),(by first|rfl|(simp;done)|(simp [*];done)),H',⟨Nat.le_refl _⟩,by repeat (first|exact Drawn0.refl _|apply Drawn0.step)⟩
 case round =>
  clear H'
  try clear c1
  try clear p2
  obtain⟨x6_1,x7_1,x12_1,rfl,rfl,rfl,HA,HK1,⟨m1,rfl⟩⟩:=hrel
  cases gk with
  | zero=>exact absurd HA.out (by simp [impl_rowsOf.l0])
  | succ k1 =>
   have H:=HA.out
   clear HA
   simp only [impl_rowsOf.l0] at H
   by_cases c3:x12_1 < (wrap64 ((l0.length:Int) + 1))
   ·rw [if_pos c3] at H
    have c3b0:decide (x12_1 < (wrap64 ((l0.length:Int) + 1))) = true:=decide_eq_true c3
    clear c3
    by_cases c4:0 ≤ x12_1
    ·rw [if_pos c4] at H
     have c4b0:=eq_true c4
     have c4b1:decide (0 ≤ x12_1) = true:=decide_eq_true c4
     clear c4
     by_cases c5:x12_1 ≤ (l0.length:Int)
     ·rw [if_pos c5] at H
      have c5b0:=eq_true c5
      have c5b1:decide (x12_1 ≤ (l0.length:Int)) = true:=decide_eq_true c5
      clear c5
      replace H:=Option.bind_eq_some_iff.mp H
      obtain⟨t210,A60,H⟩:=H
      replace H:(if t210 = true then (impl_rowsOf.l0 k1 l0 l1 x6_1 (wrap64 (x7_1 + 1)) (wrap64 ((l0.length:Int) + 1)) (wrap64 (x12_1 + 1))) else ((bytes_Compare.f (l0.drop (x12_1:Int).toNat) l1).bind fun t212=>(if t212 < 0 then (impl_rowsOf.l0 k1 l0 l1 (wrap64 (x6_1 + 1)) x7_1 (wrap64 ((l0.length:Int) + 1)) (wrap64 (x12_1 + 1))) else (impl_rowsOf.l0 k1 l0 l1 x6_1 x7_1 (wrap64 ((l0.length:Int) + 1)) (wrap64 (x12_1 + 1)))))) = some (r1,r2):=H
      have A6:=mk0 A60
      clear A60
      by_cases c7:t210 = true
      ·subst c7
       have H1:(impl_rowsOf.l0 k1 l0 l1 x6_1 (wrap64 (x7_1 + 1)) (wrap64 ((l0.length:Int) + 1)) (wrap64 (x12_1 + 1))) = some (r1,r2):=by rw [if_pos rfl] at H;exact H
       clear H
       have H:=H1
       clear H1
       have H':=mk0 H
       clear H
       obtain⟨i08,hi08,_,hsz8,_⟩:=info_parts info5
       obtain⟨A8,hcut8,hA8,hC8⟩:=print_drop_of (P:=Try.prog) (Value.int .u8) 0 22 5 .i64 Try.underlying22 hi08 hsz8 A0 c0 l0 x12_1 (of_decide_eq_true (by first|(with_reducible assumption)|assumption)) (of_decide_eq_true (by first|(with_reducible assumption)|assumption)) HC0.out
       have HR209:=mk0 (Kd.C_of_reads (h1:=fun _=>rfl) (hA8 _ (Kd.reads_of_C HR0.out)))
       have HC209:=mk0 hC8
       clear hA8 hC8 hi08 hsz8
       go_wp2_with (first|((with_reducible refine gate_callee (f:=83) rfl ?_);refine goesL_ (some 20) rfl rfl Try.func83 (by kernel_rfl) rfl #[.slice A8 (l0.drop (x12_1:Int).toNat).length (c0 - x12_1.toNat),.slice A1 l1.length c1] rfl (by (try simp only [mA,mC,mN]);first|done|(rw [show (l0.drop (x12_1:Int).toNat).length = (l0.length - x12_1.toNat) from List.length_drop] <;> rfl)|rfl|(simp only [List.length_drop,List.length_take];done)|(simp only [List.length_drop,List.length_take];rfl)) ?_;(with_reducible refine (bytes_HasPrefix.calls _ _ (l0.drop (x12_1:Int).toNat) _ _ l1 true _ ?side1 ?side2 ?side3 ?side4 A6.out).mono ?_);(case side1=>repeat (first|exact HR209.out|(with_reducible first|apply aC|apply nC|apply dC)));(case side2=>exact HC209.out);(case side3=>repeat (first|exact HR1.out|(with_reducible first|apply aC|apply nC|apply dC)));(case side4=>exact HC1.out);rintro e w' ⟨rfl,⟨nd,rfl⟩⟩;refine⟨_,rfl,?_⟩))
       go_roundg k1
       case measure=>have:=HK1.out;omega
       case rel=>exact⟨(x6_1),(wrap64 (x7_1 + 1)),(wrap64 (x12_1 + 1)),(by first|rfl|(simp;done)|(simp [*];done)),(by first|rfl|(simp;done)|(simp [*];done)),(by first|rfl|(simp;done)|(simp [*];done)),H',⟨by have:=HK1.out;omega⟩,by repeat (first|exact Drawn0.refl _|apply Drawn0.step)⟩
      ·replace c7:=Bool.eq_false_iff.mpr c7
       subst c7
       have H1:((bytes_Compare.f (l0.drop (x12_1:Int).toNat) l1).bind fun t212=>(if t212 < 0 then (impl_rowsOf.l0 k1 l0 l1 (wrap64 (x6_1 + 1)) x7_1 (wrap64 ((l0.length:Int) + 1)) (wrap64 (x12_1 + 1))) else (impl_rowsOf.l0 k1 l0 l1 x6_1 x7_1 (wrap64 ((l0.length:Int) + 1)) (wrap64 (x12_1 + 1))))) = some (r1,r2):=by rw [if_neg (show ¬ (false = true) by decide)] at H;exact H
       clear H
       have H:=H1
       clear H1
       have c9b0:=eq_true (of_decide_eq_true (by first|(with_reducible assumption)|assumption):0 ≤ x12_1)
       have c10b0:=eq_true (of_decide_eq_true (by first|(with_reducible assumption)|assumption):x12_1 ≤ (l0.length:Int))
       replace H:=Option.bind_eq_some_iff.mp H
       obtain⟨t212,A110,H⟩:=H
       replace H:(if t212 < 0 then (impl_rowsOf.l0 k1 l0 l1 (wrap64 (x6_1 + 1)) x7_1 (wrap64 ((l0.length:Int) + 1)) (wrap64 (x12_1 + 1))) else (impl_rowsOf.l0 k1 l0 l1 x6_1 x7_1 (wrap64 ((l0.length:Int) + 1)) (wrap64 (x12_1 + 1)))) = some (r1,r2):=H
       have A11:=mk0 A110
       clear A110
       by_cases c12:t212 < 0
       ·rw [if_pos c12] at H
        have c12b0:decide (t212 < 0) = true:=decide_eq_true c12
        clear c12
        have H':=mk0 H
        clear H
        obtain⟨i013,hi013,_,hsz13,_⟩:=info_parts info5
        obtain⟨A13,hcut13,hA13,hC13⟩:=print_drop_of (P:=Try.prog) (Value.int .u8) 0 22 5 .i64 Try.underlying22 hi013 hsz13 A0 c0 l0 x12_1 (of_decide_eq_true (by first|(with_reducible assumption)|assumption)) (of_decide_eq_true (by first|(with_reducible assumption)|assumption)) HC0.out
        have HR209:=mk0 (Kd.C_of_reads (h1:=fun _=>rfl) (hA13 _ (Kd.reads_of_C HR0.out)))
        have HC209:=mk0 hC13
        clear hA13 hC13 hi013 hsz13
        go_wp2_with (first|((with_reducible refine gate_callee (f:=83) rfl ?_);refine goesL_ (some 20) rfl rfl Try.func83 (by kernel_rfl) rfl #[.slice A13 (l0.drop (x12_1:Int).toNat).length (c0 - x12_1.toNat),.slice A1 l1.length c1] rfl (by (try simp only [mA,mC,mN]);first|done|(rw [show (l0.drop (x12_1:Int).toNat).length = (l0.length - x12_1.toNat) from List.length_drop] <;> rfl)|rfl|(simp only [List.length_drop,List.length_take];done)|(simp only [List.length_drop,List.length_take];rfl)) ?_;(with_reducible refine (bytes_HasPrefix.calls _ _ (l0.drop (x12_1:Int).toNat) _ _ l1 false _ ?side1 ?side2 ?side3 ?side4 A6.out).mono ?_);(case side1=>repeat (first|exact HR209.out|(with_reducible first|apply aC|apply nC|apply dC)));(case side2=>exact HC209.out);(case side3=>repeat (first|exact HR1.out|(with_reducible first|apply aC|apply nC|apply dC)));(case side4=>exact HC1.out);rintro e w' ⟨rfl,⟨nd,rfl⟩⟩;refine⟨_,rfl,?_⟩;have HR211 := HR209; have HC211 := HC209)|((with_reducible refine gate_callee (f:=67) rfl ?_);refine goesL_ (some 28) rfl rfl Try.func67 (by kernel_rfl) rfl #[.slice A13 (l0.drop (x12_1:Int).toNat).length (c0 - x12_1.toNat),.slice A1 l1.length c1] rfl (by (try simp only [mA,mC,mN]);first|done|(rw [show (l0.drop (x12_1:Int).toNat).length = (l0.length - x12_1.toNat) from List.length_drop] <;> rfl)|rfl|(simp only [List.length_drop,List.length_take];done)|(simp only [List.length_drop,List.length_take];rfl)) ?_;(with_reducible refine (bytes_Compare.calls _ _ (l0.drop (x12_1:Int).toNat) _ _ l1 t212 _ ?side1 ?side2 ?side3 ?side4 A11.out).mono ?_);(case side1=>repeat (first|exact HR211.out|(with_reducible first|apply aC|apply nC|apply dC)));(case side2=>exact HC211.out);(case side3=>repeat (first|exact HR1.out|(with_reducible first|apply aC|apply nC|apply dC)));(case side4=>exact HC1.out);rintro e w' ⟨rfl,⟨nd,rfl⟩⟩;refine⟨_,rfl,?_⟩))
        go_roundg k1
        case measure=>have:=HK1.out;omega
        case rel=>exact⟨(wrap64 (x6_1 + 1)),(x7_1),(wrap64 (x12_1 + 1)),(by first|rfl|(simp;done)|(simp [*];done)),(by first|rfl|(simp;done)|(simp [*];done)),(by first|rfl|(simp;done)|(simp [*];done)),H',⟨by have:=HK1.out;omega⟩,by repeat (first|exact Drawn0.refl _|apply Drawn0.step)⟩
       ·rw [if_neg c12] at H
        have c12b0:decide (t212 < 0) = false:=decide_eq_false c12
        clear c12
        have H':=mk0 H
        clear H
        obtain⟨i015,hi015,_,hsz15,_⟩:=info_parts info5
        obtain⟨A15,hcut15,hA15,hC15⟩:=print_drop_of (P:=Try.prog) (Value.int .u8) 0 22 5 .i64 Try.underlying22 hi015 hsz15 A0 c0 l0 x12_1 (of_decide_eq_true (by first|(with_reducible assumption)|assumption)) (of_decide_eq_true (by first|(with_reducible assumption)|assumption)) HC0.out
        have HR209:=mk0 (Kd.C_of_reads (h1:=fun _=>rfl) (hA15 _ (Kd.reads_of_C HR0.out)))
        have HC209:=mk0 hC15
        clear hA15 hC15 hi015 hsz15
        go_wp2_with (first|((with_reducible refine gate_callee (f:=83) rfl ?_);refine goesL_ (some 20) rfl rfl Try.func83 (by kernel_rfl) rfl #[.slice A15 (l0.drop (x12_1:Int).toNat).length (c0 - x12_1.toNat),.slice A1 l1.length c1] rfl (by (try simp only [mA,mC,mN]);first|done|(rw [show (l0.drop (x12_1:Int).toNat).length = (l0.length - x12_1.toNat) from List.length_drop] <;> rfl)|rfl|(simp only [List.length_drop,List.length_take];done)|(simp only [List.length_drop,List.length_take];rfl)) ?_;(with_reducible refine (bytes_HasPrefix.calls _ _ (l0.drop (x12_1:Int).toNat) _ _ l1 false _ ?side1 ?side2 ?side3 ?side4 A6.out).mono ?_);(case side1=>repeat (first|exact HR209.out|(with_reducible first|apply aC|apply nC|apply dC)));(case side2=>exact HC209.out);(case side3=>repeat (first|exact HR1.out|(with_reducible first|apply aC|apply nC|apply dC)));(case side4=>exact HC1.out);rintro e w' ⟨rfl,⟨nd,rfl⟩⟩;refine⟨_,rfl,?_⟩;have HR211 := HR209; have HC211 := HC209)|((with_reducible refine gate_callee (f:=67) rfl ?_);refine goesL_ (some 28) rfl rfl Try.func67 (by kernel_rfl) rfl #[.slice A15 (l0.drop (x12_1:Int).toNat).length (c0 - x12_1.toNat),.slice A1 l1.length c1] rfl (by (try simp only [mA,mC,mN]);first|done|(rw [show (l0.drop (x12_1:Int).toNat).length = (l0.length - x12_1.toNat) from List.length_drop] <;> rfl)|rfl|(simp only [List.length_drop,List.length_take];done)|(simp only [List.length_drop,List.length_take];rfl)) ?_;(with_reducible refine (bytes_Compare.calls _ _ (l0.drop (x12_1:Int).toNat) _ _ l1 t212 _ ?side1 ?side2 ?side3 ?side4 A11.out).mono ?_);(case side1=>repeat (first|exact HR211.out|(with_reducible first|apply aC|apply nC|apply dC)));(case side2=>exact HC211.out);(case side3=>repeat (first|exact HR1.out|(with_reducible first|apply aC|apply nC|apply dC)));(case side4=>exact HC1.out);rintro e w' ⟨rfl,⟨nd,rfl⟩⟩;refine⟨_,rfl,?_⟩))
        go_roundg k1
        case measure=>have:=HK1.out;omega
        case rel=>exact⟨(x6_1),(x7_1),(wrap64 (x12_1 + 1)),(by first|rfl|(simp;done)|(simp [*];done)),(by first|rfl|(simp;done)|(simp [*];done)),(by first|rfl|(simp;done)|(simp [*];done)),H',⟨by have:=HK1.out;omega⟩,by repeat (first|exact Drawn0.refl _|apply Drawn0.step)⟩
     ·rw [if_neg c5] at H
      exact absurd H (by simp)
    ·rw [if_neg c4] at H
     exact absurd H (by simp)
   ·rw [if_neg c3] at H
    have c3b0:decide (x12_1 < (wrap64 ((l0.length:Int) + 1))) = false:=decide_eq_false c3
    clear c3
    simp only [Option.some.injEq,Prod.mk.injEq] at H
    obtain⟨rfl,rfl⟩:=H
    go_wp2
    go_ret2
    exact⟨by first|rfl|(simp;done)|(simp [*];done),by repeat (first|exact Drawn0.refl _|apply Drawn0.step)⟩

/-! ### impl_RowsOf: function 47 -/
def impl_RowsOf.f (k : Nat) (l0 : List Int) (l1 : List Int) : Option (Int × Int) := (impl_TextOk.f l0).bind fun t213 => (if t213 = true then ((impl_rowsOf.f k l0 l1).bind fun bt214 => (some (bt214.1, bt214.2))) else (some (0, 0)))
theorem impl_RowsOf.mono : ∀ a0 a1 k, LeO (impl_RowsOf.f k a0 a1) (impl_RowsOf.f (k + 1) a0 a1) := by
 intro a0 a1 k
 unfold impl_RowsOf.f
 repeat' first|(with_reducible first|exact impl_rowsOf.mono _ _ _|exact LeO.refl _|exact LeO.none _|refine LeO.ite ?_ ?_|refine LeO.bind ?_ (fun _ => ?_))|exact LeO.none _|refine LeO.ite ?_ ?_|refine LeO.bind ?_ (fun _ => ?_)
set_option maxHeartbeats 8000000 in
set_option maxRecDepth 100000 in
theorem impl_RowsOf.calls (k : Nat) (A0 : Option Addr) (c0 : Nat) (l0 : List Int) (A1 : Option Addr) (c1 : Nat) (l1 : List Int) (r1 : Int) (r2 : Int) (w : World) (hr0 : Kd.C (Kd.int .u8) w A0 l0.length l0) (hc0 : l0.length ≤ c0) (hr1 : Kd.C (Kd.int .u8) w A1 l1.length l1) (hc1 : l1.length ≤ c1) (h : impl_RowsOf.f k l0 l1 = some (r1, r2)) :
  Calls Try.prog 47 #[.slice A0 l0.length c0, .slice A1 l1.length c1] w fun e w' => e = .returned (.tuple #[.int .i64 r1, .int .i64 r2]) ∧ Drawn0 w w' := by
 have HR0:=mk0 hr0
 have HC0:=mk0 hc0
 clear hr0 hc0
 have HR1:=mk0 hr1
 have HC1:=mk0 hc1
 clear hr1 hc1
 have H:((impl_TextOk.f l0).bind fun t213=>(if t213 = true then ((impl_rowsOf.f k l0 l1).bind fun bt214=>(some (bt214.1,bt214.2))) else (some (0,0)))) = some (r1,r2):=h
 clear h
 replace H:=Option.bind_eq_some_iff.mp H
 obtain⟨t213,A30,H⟩:=H
 replace H:(if t213 = true then ((impl_rowsOf.f k l0 l1).bind fun bt214=>(some (bt214.1,bt214.2))) else (some (0,0))) = some (r1,r2):=H
 have A3:=mk0 A30
 clear A30
 by_cases c4:t213 = true
 ·subst c4
  have H1:((impl_rowsOf.f k l0 l1).bind fun bt214=>(some (bt214.1,bt214.2))) = some (r1,r2):=by rw [if_pos rfl] at H;exact H
  clear H
  have H:=H1
  clear H1
  replace H:=Option.bind_eq_some_iff.mp H
  obtain⟨⟨t214,t215⟩,A50,H⟩:=H
  replace H:(some (t214,t215)) = some (r1,r2):=H
  have A5:=mk0 A50
  clear A50
  simp only [Option.some.injEq,Prod.mk.injEq] at H
  obtain⟨rfl,rfl⟩:=H
  go_enter Try.func47,Try.ntmps47
  go_wp2_with (first|((with_reducible refine gate_callee (f:=39) rfl ?_);refine goesL_ (some 7) rfl rfl Try.func39 (by kernel_rfl) rfl #[.slice A0 l0.length c0] rfl (by (try simp only [mA,mC,mN]);first|done|rfl|(simp only [List.length_drop,List.length_take];done)|(simp only [List.length_drop,List.length_take];rfl)) ?_;(with_reducible refine (impl_TextOk.calls _ _ l0 true _ ?side1 ?side2 A3.out).mono ?_);(case side1=>repeat (first|exact HR0.out|(with_reducible first|apply aC|apply nC|apply dC)));(case side2=>exact HC0.out);rintro e w' ⟨rfl,⟨nd,rfl⟩⟩;refine⟨_,rfl,?_⟩)|((with_reducible refine gate_callee (f:=69) rfl ?_);refine goesL_ (some 11) rfl rfl Try.func69 (by kernel_rfl) rfl #[.slice A0 l0.length c0,.slice A1 l1.length c1] rfl (by (try simp only [mA,mC,mN]);first|done|rfl|(simp only [List.length_drop,List.length_take];done)|(simp only [List.length_drop,List.length_take];rfl)) ?_;(with_reducible refine (impl_rowsOf.calls k _ _ l0 _ _ l1 t214 t215 _ ?side1 ?side2 ?side3 ?side4 A5.out).mono ?_);(case side1=>repeat (first|exact HR0.out|(with_reducible first|apply aC|apply nC|apply dC)));(case side2=>exact HC0.out);(case side3=>repeat (first|exact HR1.out|(with_reducible first|apply aC|apply nC|apply dC)));(case side4=>exact HC1.out);rintro e w' ⟨rfl,⟨nd,rfl⟩⟩;refine⟨_,rfl,?_⟩))
  go_ret2
  exact⟨by first|rfl|(simp;done)|(simp [*];done),by repeat (first|exact Drawn0.refl _|apply Drawn0.step)⟩
 ·replace c4:=Bool.eq_false_iff.mpr c4
  subst c4
  have H1:(some (0,0)) = some (r1,r2):=by rw [if_neg (show ¬ (false = true) by decide)] at H;exact H
  clear H
  have H:=H1
  clear H1
  simp only [Option.some.injEq,Prod.mk.injEq] at H
  obtain⟨rfl,rfl⟩:=H
  go_enter Try.func47,Try.ntmps47
  go_wp2_with (first|((with_reducible refine gate_callee (f:=39) rfl ?_);refine goesL_ (some 7) rfl rfl Try.func39 (by kernel_rfl) rfl #[.slice A0 l0.length c0] rfl (by (try simp only [mA,mC,mN]);first|done|rfl|(simp only [List.length_drop,List.length_take];done)|(simp only [List.length_drop,List.length_take];rfl)) ?_;(with_reducible refine (impl_TextOk.calls _ _ l0 false _ ?side1 ?side2 A3.out).mono ?_);(case side1=>repeat (first|exact HR0.out|(with_reducible first|apply aC|apply nC|apply dC)));(case side2=>exact HC0.out);rintro e w' ⟨rfl,⟨nd,rfl⟩⟩;refine⟨_,rfl,?_⟩))
  go_ret2
  exact⟨by first|rfl|(simp;done)|(simp [*];done),by repeat (first|exact Drawn0.refl _|apply Drawn0.step)⟩

/-! ### slices_Min_int_int: function 48 -/
def slices_Min_int_int.l0 : Nat → List Int → Int → Int → Option (Int)
 | 0, _, _, _ => none
 | k + 1, x0, x3, x4 => if x4 < (x0.length : Int) then (if 0 ≤ x4 then (slices_Min_int_int.l0 k x0 (mn x3 (rd x0 x4)) (wrap64 (x4 + 1))) else (none)) else (some x3)
def slices_Min_int_int.f (k : Nat) (l0 : List Int) : Option (Int) := if (l0.length : Int) < 1 then (none) else (if 0 < (l0.length : Int) then (slices_Min_int_int.l0 k l0 (rd l0 0) 1) else (none))
theorem slices_Min_int_int.mono_l : ∀ k, (∀ y0 y1 y2, LeO (slices_Min_int_int.l0 k y0 y1 y2) (slices_Min_int_int.l0 (k + 1) y0 y1 y2))
 | 0 => fun _ _ _ r h => by simp [slices_Min_int_int.l0] at h
 | k + 1 => by
  have ih0 := slices_Min_int_int.mono_l k
  ·intro y0 y1 y2
   unfold slices_Min_int_int.l0
   repeat' first|(with_reducible first|exact ih0 _ _ _|exact LeO.refl _|exact LeO.none _|refine LeO.ite ?_ ?_|refine LeO.bind ?_ (fun _ => ?_))|exact LeO.none _|refine LeO.ite ?_ ?_|refine LeO.bind ?_ (fun _ => ?_)
theorem slices_Min_int_int.mono : ∀ a0 k, LeO (slices_Min_int_int.f k a0) (slices_Min_int_int.f (k + 1) a0) := by
 intro a0 k
 have ih0 := slices_Min_int_int.mono_l k
 unfold slices_Min_int_int.f
 repeat' first|(with_reducible first|exact ih0 _ _ _|exact LeO.refl _|exact LeO.none _|refine LeO.ite ?_ ?_|refine LeO.bind ?_ (fun _ => ?_))|exact LeO.none _|refine LeO.ite ?_ ?_|refine LeO.bind ?_ (fun _ => ?_)
set_option maxHeartbeats 8000000 in
set_option maxRecDepth 100000 in
theorem slices_Min_int_int.calls (k : Nat) (A0 : Option Addr) (c0 : Nat) (l0 : List Int) (r : Int) (w : World) (hr0 : Kd.C (Kd.int .i64) w A0 l0.length l0) (hc0 : l0.length ≤ c0) (h : slices_Min_int_int.f k l0 = some r) :
  Calls Try.prog 48 #[.slice A0 l0.length c0] w fun e w' => e = .returned (.int .i64 r) ∧ Below w.heap.size w w' := by
 have HR0:=mk0 hr0
 have HC0:=mk0 hc0
 clear hr0 hc0
 have HB:=mk0 (Below.refl w.heap.size w)
 have H:(if (l0.length:Int) < 1 then (none) else (if 0 < (l0.length:Int) then (slices_Min_int_int.l0 k l0 (rd l0 0) 1) else (none))) = some r:=h
 clear h
 by_cases c2:(l0.length:Int) < 1
 ·rw [if_pos c2] at H
  exact absurd H (by simp)
 ·rw [if_neg c2] at H
  have c2b0:decide ((l0.length:Int) < 1) = false:=decide_eq_false c2
  have c2b1:decide (l0.length < 1) = false:=decide_eq_false (by omega)
  clear c2
  by_cases c3:0 < (l0.length:Int)
  ·rw [if_pos c3] at H
   have c3b0:decide (0 < (l0.length:Int)) = true:=decide_eq_true c3
   have c3b1:decide (0 < l0.length) = true:=decide_eq_true (by omega)
   clear c3
   have H':=mk0 H
   clear H
   have p216:0 ≤ (0:Int):=(by omega)
   have q216:0 < (l0.length:Int):=of_decide_eq_true (by first|(with_reducible assumption)|assumption)
   obtain⟨ad216,e216,hx216_0⟩:=Kd.at_int HR0.out 0 p216 q216
   cases e216
   have qi216:(0 < l0.length) = True:=eq_true (by omega)
   (try rw [show ((0:Int)).toNat = 0 from rfl] at hx216_0)
   (try rw [Addr.add_zero'] at hx216_0)
   replace p216:=eq_true p216
   replace q216:=eq_true q216
   go_enter Try.func48,Try.ntmps48
   go_wp2
   go_loopg [3,4] k (fun kq v3 v4 w'=>∃ (x3_1:Int) (x4_1:Int),v3 = .int .i64 x3_1 ∧ v4 = .int .i64 x4_1 ∧ Aside0 (slices_Min_int_int.l0 kq l0 x3_1 x4_1 = some r) ∧ Aside0 (kq ≤ k) ∧ Aside0 (Below w.heap.size w w'))
   case atStart=>exact⟨(rd l0 0),(1),(by first|rfl|(simp;done)|(simp [*];done)),(by first|rfl|(simp;done)|(simp [*];done)),H',⟨Nat.le_refl _⟩,⟨kB HB.out⟩⟩
   case round =>
    clear H'
    try clear c2
    try clear c2b0
    try clear c2b1
    try clear p2
    try clear q2
    try clear hx2
    try clear qi2
    try clear c3
    try clear c3b0
    try clear c3b1
    try clear hx216_0
    try clear p216
    try clear q216
    obtain⟨x3_1,x4_1,rfl,rfl,HA,HK1,HB⟩:=hrel
    cases gk with
    | zero=>exact absurd HA.out (by simp [slices_Min_int_int.l0])
    | succ k1 =>
     have H:=HA.out
     clear HA
     simp only [slices_Min_int_int.l0] at H
     by_cases c4:x4_1 < (l0.length:Int)
     ·rw [if_pos c4] at H
      have c4b0:decide (x4_1 < (l0.length:Int)) = true:=decide_eq_true c4
      clear c4
      by_cases c5:0 ≤ x4_1
      ·rw [if_pos c5] at H
       have c5b0:decide (0 ≤ x4_1) = true:=decide_eq_true c5
       clear c5
       obtain⟨ji6,hji6⟩:∃ j_:Int,(mn x3_1 (rd l0 x4_1)) = j_:=⟨_,rfl⟩
       replace H:(slices_Min_int_int.l0 k1 l0 ji6 (wrap64 (x4_1 + 1))) = some r:=by first|(rw [hji6] at H;exact H)|(simp only [hji6] at H ⊢;exact H)
       have hji6_:(if (rd l0 x4_1) < x3_1 then (rd l0 x4_1) else x3_1) = ji6:=hji6
       have H':=mk0 H
       clear H
       have p217:0 ≤ (x4_1:Int):=of_decide_eq_true (by first|(with_reducible assumption)|assumption)
       have q217:x4_1 < (l0.length:Int):=of_decide_eq_true (by first|(with_reducible assumption)|assumption)
       obtain⟨ad217,e217,hx217_0⟩:=Kd.at_int HR0.out x4_1 p217 q217
       obtain rfl:ad216 = ad217:=(by injection e217)
       replace hx217_0:=(HB.out.cell (World.block_lt_of_cell? w _ hx217_0)).trans hx217_0
       replace p217:=eq_true p217
       replace q217:=eq_true q217
       go_wp2
       go_roundg k1
       case measure=>have:=HK1.out;omega
       case rel=>exact⟨(ji6),(wrap64 (x4_1 + 1)),(by first|rfl|(simp;done)|(simp only [← hji6] <;> (first|rfl|simp))|(simp [*];done)),(by first|rfl|(simp;done)|(simp [*];done)),H',⟨by have:=HK1.out;omega⟩,⟨kB HB.out⟩⟩
      ·rw [if_neg c5] at H
       exact absurd H (by simp)
     ·rw [if_neg c4] at H
      have c4b0:decide (x4_1 < (l0.length:Int)) = false:=decide_eq_false c4
      clear c4
      obtain rfl:=Option.some.inj H
      go_wp2
      go_ret
      exact⟨by first|rfl|(simp [errW_none,errW_some] <;> rfl)|(simp [*,errW_none,errW_some] <;> rfl),kB HB.out⟩
  ·rw [if_neg c3] at H
   exact absurd H (by simp)

/-! ### impl_StretchOf: function 21 -/
def impl_StretchOf.f (k : Nat) (l0 : List Int) (l1 : List Int) : Option (Int × Int × Int × Bool) := (impl_RowsOf.f k l0 l1).bind fun bt219 => (if (wrap64 (bt219.2 - bt219.1)) < 2 then (some (0, 0, 0, false)) else ((impl_lcpRows.f k l0).bind fun t221 => (if 0 ≤ (wrap64 (bt219.1 + 1)) then (if (wrap64 (bt219.1 + 1)) ≤ bt219.2 then (if bt219.2 ≤ (t221.length : Int) then ((slices_Min_int_int.f k ((t221.take (bt219.2 : Int).toNat).drop ((wrap64 (bt219.1 + 1)) : Int).toNat)).bind fun t228 => (some (bt219.1, bt219.2, t228, true))) else (none)) else (none)) else (none))))
theorem impl_StretchOf.mono : ∀ a0 a1 k, LeO (impl_StretchOf.f k a0 a1) (impl_StretchOf.f (k + 1) a0 a1) := by
 intro a0 a1 k
 unfold impl_StretchOf.f
 repeat' first|(with_reducible first|exact impl_RowsOf.mono _ _ _|exact impl_lcpRows.mono _ _|exact slices_Min_int_int.mono _ _|exact LeO.refl _|exact LeO.none _|refine LeO.ite ?_ ?_|refine LeO.bind ?_ (fun _ => ?_))|exact LeO.none _|refine LeO.ite ?_ ?_|refine LeO.bind ?_ (fun _ => ?_)
set_option maxHeartbeats 8000000 in
set_option maxRecDepth 100000 in
theorem impl_StretchOf.calls (k : Nat) (A0 : Option Addr) (c0 : Nat) (l0 : List Int) (A1 : Option Addr) (c1 : Nat) (l1 : List Int) (r1 : Int) (r2 : Int) (r3 : Int) (r4 : Bool) (w : World) (hr0 : Kd.C (Kd.int .u8) w A0 l0.length l0) (hc0 : l0.length ≤ c0) (hr1 : Kd.C (Kd.int .u8) w A1 l1.length l1) (hc1 : l1.length ≤ c1) (h : impl_StretchOf.f k l0 l1 = some (r1, r2, r3, r4)) :
  Calls Try.prog 21 #[.slice A0 l0.length c0, .slice A1 l1.length c1] w fun e w' => e = .returned (.tuple #[.agg #[.int .i64 r1, .int .i64 r2, .int .i64 r3], .bool r4]) ∧ Below w.heap.size w w' := by
 have hu27:=Try.underlying27
 have HR0:=mk0 hr0
 have HC0:=mk0 hc0
 clear hr0 hc0
 have HR1:=mk0 hr1
 have HC1:=mk0 hc1
 clear hr1 hc1
 have HB:=mk0 (Below.refl w.heap.size w)
 have H:((impl_RowsOf.f k l0 l1).bind fun bt219=>(if (wrap64 (bt219.2 - bt219.1)) < 2 then (some (0,0,0,false)) else ((impl_lcpRows.f k l0).bind fun t221=>(if 0 ≤ (wrap64 (bt219.1 + 1)) then (if (wrap64 (bt219.1 + 1)) ≤ bt219.2 then (if bt219.2 ≤ (t221.length:Int) then ((slices_Min_int_int.f k ((t221.take (bt219.2:Int).toNat).drop ((wrap64 (bt219.1 + 1)):Int).toNat)).bind fun t228=>(some (bt219.1,bt219.2,t228,true))) else (none)) else (none)) else (none))))) = some (r1,r2,r3,r4):=h
 clear h
 replace H:=Option.bind_eq_some_iff.mp H
 obtain⟨⟨t219,t220⟩,A30,H⟩:=H
 replace H:(if (wrap64 (t220 - t219)) < 2 then (some (0,0,0,false)) else ((impl_lcpRows.f k l0).bind fun t221=>(if 0 ≤ (wrap64 (t219 + 1)) then (if (wrap64 (t219 + 1)) ≤ t220 then (if t220 ≤ (t221.length:Int) then ((slices_Min_int_int.f k ((t221.take (t220:Int).toNat).drop ((wrap64 (t219 + 1)):Int).toNat)).bind fun t228=>(some (t219,t220,t228,true))) else (none)) else (none)) else (none)))) = some (r1,r2,r3,r4):=H
 have A3:=mk0 A30
 clear A30
 by_cases c4:(wrap64 (t220 - t219)) < 2
 ·rw [if_pos c4] at H
  have c4b0:decide ((wrap64 (t220 - t219)) < 2) = true:=decide_eq_true c4
  clear c4
  simp only [Option.some.injEq,Prod.mk.injEq] at H
  obtain⟨rfl,rfl,rfl,rfl⟩:=H
  go_enter Try.func21,Try.ntmps21
  go_wp2_with (first|((with_reducible refine gate_dst (N:=4) rfl ?_);refine box_event ?hg (N:=4) ?hd (cs:=#[.int .i64 0,.int .i64 0,.int .i64 0]) (t:=27) ?hr ?_;(case hd=>rfl);(case hg=>rfl);(case hr=>first|(go_simp;done)|(go_simp;rfl));intro gb218 hg w5 hbox hb;have BK218:=mk0 (hbox);have GW218:=mk0 ((by rw [hg];exact (kZ HB.out):w.heap.size ≤ gb218));have GE218:=mk0 ((by rw [hg];exact (kZ HB.out):w.heap.size ≤ gb218));replace HB:=mk0 (kS HB.out hb);clear hb hbox hg)|((with_reducible refine gate_callee (f:=47) rfl ?_);refine goesL_ (some 11) rfl rfl Try.func47 (by kernel_rfl) rfl #[.slice A0 l0.length c0,.slice A1 l1.length c1] rfl (by (try simp only [mA,mC,mN]);first|done|rfl|(simp only [List.length_drop,List.length_take];done)|(simp only [List.length_drop,List.length_take];rfl)) ?_;(with_reducible refine (impl_RowsOf.calls k _ _ l0 _ _ l1 t219 t220 _ ?side1 ?side2 ?side3 ?side4 A3.out).mono ?_);(case side1=>exact kC (Kd.C_below HR0.out HB.out));(case side2=>exact HC0.out);(case side3=>exact kC (Kd.C_below HR1.out HB.out));(case side4=>exact HC1.out);rintro e w' ⟨rfl,⟨nd,rfl⟩⟩;refine⟨_,rfl,?_⟩;(try (rw [drewN_self w5];generalize hq_:World.drewN w5 _ = w5;have n0_:Aside0 (w5.heap[gb218]? = some (.cells #[.int .i64 0,.int .i64 0,.int .i64 0] 27 (0,0))):=⟨by rw [← hq_];exact (kN BK218.out)⟩;have n1_:Aside0 (Below w.heap.size w w5):=⟨by rw [← hq_];exact (kB HB.out)⟩;clear BK218 HB hq_;have BK218:=n0_;have HB:=n1_;clear n0_ n1_));obtain⟨hcz6_0,hcz6_1,hcz6_2,hfz6_0,hfz6_1,hfz6_2⟩:=cz3 BK218.out))
  refine bodyPost_ret (results_ct rfl _ _ gb218 27 #[.int .i64 0,.int .i64 0,.int .i64 0] (0,0) _ rfl (by (with_reducible repeat (first|apply nB|apply dB|apply aB));refine blk_put (cs:=#[.int .i64 0,.int .i64 0,.int .i64 0]) ?_ 2 _ rfl;(with_reducible repeat (first|apply nB|apply dB|apply aB));refine blk_put (cs:=#[.int .i64 0,.int .i64 0,.int .i64 0]) ?_ 1 _ rfl;(with_reducible repeat (first|apply nB|apply dB|apply aB));refine blk_put (cs:=#[.int .i64 0,.int .i64 0,.int .i64 0]) ?_ 0 _ rfl;(with_reducible repeat (first|apply nB|apply dB|apply aB));exact BK218.out) Try.underlying27 rfl (by kernel_rfl)) rfl ?_
  exact⟨by first|rfl|(simp [errW_none,errW_some] <;> rfl)|(simp [*,errW_none,errW_some] <;> rfl),kB HB.out⟩
 ·rw [if_neg c4] at H
  have c4b0:decide ((wrap64 (t220 - t219)) < 2) = false:=decide_eq_false c4
  clear c4
  replace H:=Option.bind_eq_some_iff.mp H
  obtain⟨t221,A70,H⟩:=H
  replace H:(if 0 ≤ (wrap64 (t219 + 1)) then (if (wrap64 (t219 + 1)) ≤ t220 then (if t220 ≤ (t221.length:Int) then ((slices_Min_int_int.f k ((t221.take (t220:Int).toNat).drop ((wrap64 (t219 + 1)):Int).toNat)).bind fun t228=>(some (t219,t220,t228,true))) else (none)) else (none)) else (none)) = some (r1,r2,r3,r4):=H
  have A7:=mk0 A70
  clear A70
  obtain⟨ji8,hji8⟩:∃ j_:Int,(wrap64 (t219 + 1)) = j_:=⟨_,rfl⟩
  replace H:(if 0 ≤ (ji8) then (if (ji8) ≤ t220 then (if t220 ≤ (t221.length:Int) then ((slices_Min_int_int.f k ((t221.take (t220:Int).toNat).drop ((ji8):Int).toNat)).bind fun t228=>(some (t219,t220,t228,true))) else (none)) else (none)) else (none)) = some (r1,r2,r3,r4):=by first|(rw [hji8] at H;exact H)|(simp only [hji8] at H ⊢;exact H)
  (try rw [hji8] at A3)
  (try rw [hji8] at A7)
  have hji8w:(IntKind.i64.wrap (t219 + 1)) = ji8:=(i64_w _).trans hji8
  by_cases c9:0 ≤ (ji8)
  ·rw [if_pos c9] at H
   have c9b0:=eq_true c9
   have c9b1:decide (0 ≤ (ji8)) = true:=decide_eq_true c9
   clear c9
   by_cases c10:(ji8) ≤ t220
   ·rw [if_pos c10] at H
    have c10b0:=eq_true c10
    have c10b1:decide ((ji8) ≤ t220) = true:=decide_eq_true c10
    clear c10
    by_cases c11:t220 ≤ (t221.length:Int)
    ·rw [if_pos c11] at H
     have c11b0:=eq_true c11
     have c11b1:decide (t220 ≤ (t221.length:Int)) = true:=decide_eq_true c11
     clear c11
     obtain⟨y224,hy224⟩:∃ y_:List Int,y_ = ((t221.take (t220:Int).toNat).drop ((ji8):Int).toNat):=⟨_,rfl⟩
     replace H:((slices_Min_int_int.f k y224).bind fun t228=>(some (t219,t220,t228,true))) = some (r1,r2,r3,r4):=by first|(rw [hy224];with_reducible exact H)|(have H2_:=(Option.bind_some _ _).symm.trans H;rw [hy224];with_reducible exact H2_)|(have H2_:=(Option.bind_some _ _).symm.trans H;with_reducible exact H2_)|with_reducible exact H|(rw [hy224];exact H)|exact H
     have Ny224:=mk0 hy224
     clear hy224
     replace H:=Option.bind_eq_some_iff.mp H
     obtain⟨t228,A120,H⟩:=H
     replace H:(some (t219,t220,t228,true)) = some (r1,r2,r3,r4):=H
     have A12:=mk0 A120
     clear A120
     simp only [Option.some.injEq,Prod.mk.injEq] at H
     obtain⟨rfl,rfl,rfl,rfl⟩:=H
     go_enter Try.func21,Try.ntmps21
     go_wp2_with (first|((with_reducible refine gate_dst (N:=4) rfl ?_);refine box_event ?hg (N:=4) ?hd (cs:=#[.int .i64 0,.int .i64 0,.int .i64 0]) (t:=27) ?hr ?_;(case hd=>rfl);(case hg=>rfl);(case hr=>first|(go_simp;done)|(go_simp;rfl));intro gb218 hg w13 hbox hb;have BK218:=mk0 (hbox);have GW218:=mk0 ((by rw [hg];exact (kZ HB.out):w.heap.size ≤ gb218));have GE218:=mk0 ((by rw [hg];exact (kZ HB.out):w.heap.size ≤ gb218));replace HB:=mk0 (kS HB.out hb);clear hb hbox hg)|((with_reducible refine gate_callee (f:=47) rfl ?_);refine goesL_ (some 11) rfl rfl Try.func47 (by kernel_rfl) rfl #[.slice A0 l0.length c0,.slice A1 l1.length c1] rfl (by (try simp only [mA,mC,mN]);first|done|rfl|(simp only [List.length_drop,List.length_take];done)|(simp only [List.length_drop,List.length_take];rfl)) ?_;(with_reducible refine (impl_RowsOf.calls k _ _ l0 _ _ l1 t219 t220 _ ?side1 ?side2 ?side3 ?side4 A3.out).mono ?_);(case side1=>exact kC (Kd.C_below HR0.out HB.out));(case side2=>exact HC0.out);(case side3=>exact kC (Kd.C_below HR1.out HB.out));(case side4=>exact HC1.out);rintro e w' ⟨rfl,⟨nd,rfl⟩⟩;refine⟨_,rfl,?_⟩;(try (rw [drewN_self w13];generalize hq_:World.drewN w13 _ = w13;have n0_:Aside0 (w13.heap[gb218]? = some (.cells #[.int .i64 0,.int .i64 0,.int .i64 0] 27 (0,0))):=⟨by rw [← hq_];exact (kN BK218.out)⟩;have n1_:Aside0 (Below w.heap.size w w13):=⟨by rw [← hq_];exact (kB HB.out)⟩;clear BK218 HB hq_;have BK218:=n0_;have HB:=n1_;clear n0_ n1_)))|((with_reducible refine gate_callee (f:=41) rfl ?_);refine goesL_ (some 22) rfl rfl Try.func41 (by kernel_rfl) rfl #[.slice A0 l0.length c0] rfl (by (try simp only [mA,mC,mN]);first|done|rfl|(simp only [List.length_drop,List.length_take];done)|(simp only [List.length_drop,List.length_take];rfl)) ?_;(with_reducible refine (impl_lcpRows.calls k _ _ l0 t221 _ ?side1 ?side2 A7.out).mono ?_);(case side1=>exact kC (Kd.C_below HR0.out HB.out));(case side2=>exact HC0.out);rintro e w14 ⟨v222,rfl,ho0,hb⟩;refine⟨_,rfl,?_⟩;have HO223:=mk0 (Kd.R_lower ho0 (kZ HB.out));replace BK218:=mk0 (kK BK218.out hb);replace HB:=mk0 (kS HB.out hb);(try clear hb);(try clear ho0);obtain⟨Ao16,co16,eo16⟩:=Kd.R_slice HO223.out;subst eo16;have q15:(t220:Int) ≤ ((t221.length:Int):Int):=of_decide_eq_true (by first|(with_reducible assumption)|assumption);obtain⟨i015,hi015,_,hsz15,_⟩:=info_parts info3;have hroom15:t221.length ≤ co16:=(Kd.R_reads' HO223.out).2.1;have hC15:Kd.C (Kd.int .i64) _ Ao16 t221.length t221:=(Kd.R_reads' HO223.out).2.2;have ql15:((ji8):Int) ≤ (t220:Int):=of_decide_eq_true (by first|(with_reducible assumption)|assumption);have q015:(0:Int) ≤ ((ji8):Int):=of_decide_eq_true (by first|(with_reducible assumption)|assumption);have hcut15:=cut_mid (P:=Try.prog) 48 3 .i64 .i64 Try.underlying48 hi015 1 hsz15 Ao16 t221.length co16 (ji8) t220 q015 ql15 q15 hroom15;have hr15:=Kd.C_mid (lo:=((ji8):Int).toNat) (hi:=(t220:Int).toNat) (c:=co16) hC15 (by omega) (by omega) hroom15;obtain⟨A15,hA15⟩:∃ A1,A1 = (if co16 = ((ji8):Int).toNat then Ao16 else (Ao16:Option Addr).map (·.add (((ji8):Int).toNat * 1))):=⟨_,rfl⟩;obtain⟨c15,hc15⟩:∃ c1,c1 = co16 - ((ji8):Int).toNat:=⟨_,rfl⟩;have hy15:y224.length = (t220:Int).toNat - ((ji8):Int).toNat:=(by rw [Ny224.out,List.length_drop,List.length_take] <;> omega);rw [show ((t221).take (t220:Int).toNat).drop ((ji8):Int).toNat = y224 from Ny224.out.symm] at hr15;replace hr15:Kd.C (Kd.int .i64) _ A15 y224.length y224:=(by rw [hA15];exact hr15);rw [← hy15, ← hA15, ← hc15] at hcut15;have HR227:=mk0 hr15;have HC227:=mk0 (show y224.length ≤ c15 from by rw [hy15,hc15];exact Nat.sub_le_sub_right (Nat.le_trans (by omega) hroom15) _);clear hr15 hC15 hroom15 hi015 hsz15 hc15;have KY15:=mk0 hy15;have KA15:=mk0 hA15;clear hy15 hA15;have KL15:=mk0 (show (t220:Int).toNat ≤ t221.length from by omega);have KM15:=mk0 (show ((ji8):Int).toNat ≤ (t220:Int).toNat from by omega);replace q15:=eq_true q15)|((with_reducible refine gate_callee (f:=48) rfl ?_);refine goesL_ (some 27) rfl rfl Try.func48 (by kernel_rfl) rfl #[.slice A15 y224.length c15] rfl (by (try simp only [mA,mC,mN]);first|done|rfl|(simp only [List.length_drop,List.length_take];done)|(simp only [List.length_drop,List.length_take];rfl)) ?_;(with_reducible refine (slices_Min_int_int.calls k _ _ y224 t228 _ ?side1 ?side2 A12.out).mono ?_);(case side1=>repeat (first|exact (by repeat (first|(with_reducible exact HR227.out)|(with_reducible first|apply aC|apply nC|apply dC)|exact HR227.out))|(with_reducible first|apply aC|apply nC|apply dC)));(case side2=>exact HC227.out);rintro e w17 ⟨rfl,hb⟩;refine⟨_,rfl,?_⟩;replace HO223:=mk0 (bR HO223.out hb);replace BK218:=mk0 (kK BK218.out hb);replace HR227:=mk0 (Kd.C_below (by repeat (first|(with_reducible exact HR227.out)|(with_reducible first|apply aC|apply nC|apply dC)|exact HR227.out)) hb);replace HB:=mk0 (kS HB.out hb);(try clear hb);obtain⟨hcz18_0,hcz18_1,hcz18_2,hfz18_0,hfz18_1,hfz18_2⟩:=cz3 BK218.out))
     refine bodyPost_ret (results_ct rfl _ _ gb218 27 #[.int .i64 t219,.int .i64 t220,.int .i64 t228] (0,0) _ rfl (by (with_reducible repeat (first|apply nB|apply dB|apply aB));refine blk_put (cs:=#[.int .i64 t219,.int .i64 t220,.int .i64 0]) ?_ 2 _ rfl;(with_reducible repeat (first|apply nB|apply dB|apply aB));refine blk_put (cs:=#[.int .i64 t219,.int .i64 0,.int .i64 0]) ?_ 1 _ rfl;(with_reducible repeat (first|apply nB|apply dB|apply aB));refine blk_put (cs:=#[.int .i64 0,.int .i64 0,.int .i64 0]) ?_ 0 _ rfl;(with_reducible repeat (first|apply nB|apply dB|apply aB));exact BK218.out) Try.underlying27 rfl (by kernel_rfl)) rfl ?_
     exact⟨by first|rfl|(simp [errW_none,errW_some] <;> rfl)|(simp only [← hji8];first|rfl|(simp [errW_none,errW_some] <;> rfl))|(simp [*,errW_none,errW_some] <;> rfl),kB HB.out⟩
    ·rw [if_neg c11] at H
     exact absurd H (by simp)
   ·rw [if_neg c10] at H
    exact absurd H (by simp)
  ·rw [if_neg c9] at H
   exact absurd H (by simp)

end Go.Proofs.Ytoinagnieobbpaa.QFnExactStretchOf
