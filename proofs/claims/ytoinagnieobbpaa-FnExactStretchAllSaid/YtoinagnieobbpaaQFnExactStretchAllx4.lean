-- A walk, made by walk.py, a program of this session's.
import Derived.Test.YtoinagnieobbpaaQFnExactStretchAllx0
import Derived.Test.YtoinagnieobbpaaQFnExactStretchAllx3
namespace Go.Proofs.Ytoinagnieobbpaa.QFnExactStretchAll
open Go.RowKit Go.Proofs.YtoinagnieobbpaaW.PrintWords Go.Proofs.YtoinagnieobbpaaW.PrintLast Go.Proofs.YtoinagnieobbpaaW.PrintMore
attribute [local go_sem] max2_int min2_int max_two min_two max_three min_three max_four min_four   -- for this text's walks alone
set_option linter.unusedVariables false
set_option linter.unusedSimpArgs false

/-! ### impl_lcpRows: function 41 -/
def impl_lcpRows.l0 : Nat → List Int → Int → List Int → List Int → Option (List Int)
 | 0, _, _, _, _ => none
 | k + 1, x0, x5, x7, x10 => if x5 < (x7.length : Int) then (if 0 ≤ (wrap64 (x5 - 1)) then (if (wrap64 (x5 - 1)) < (x7.length : Int) then (if 0 ≤ (rd x7 (wrap64 (x5 - 1))) then (if (rd x7 (wrap64 (x5 - 1))) ≤ (x0.length : Int) then (if 0 ≤ x5 then (if 0 ≤ (rd x7 x5) then (if (rd x7 x5) ≤ (x0.length : Int) then ((impl_common.f k (x0.drop ((rd x7 (wrap64 (x5 - 1))) : Int).toNat) (x0.drop ((rd x7 x5) : Int).toNat)).bind fun t216 => (if x5 < (x10.length : Int) then (impl_lcpRows.l0 k x0 (wrap64 (x5 + 1)) x7 (x10.set (x5 : Int).toNat t216)) else (none))) else (none)) else (none)) else (none)) else (none)) else (none)) else (none)) else (none)) else (some x10)
def impl_lcpRows.f (k : Nat) (l0 : List Int) : Option (List Int) := (impl_suffixRows.f k l0).bind fun t206 => (if 0 ≤ (t206.length : Int) then (if ((t206.length : Int) : Int).toNat ≤ 35184372088832 then (impl_lcpRows.l0 k l0 1 t206 (List.replicate ((t206.length : Int) : Int).toNat 0)) else (none)) else (none))
theorem impl_lcpRows.mono_l : ∀ k, (∀ y0 y1 y2 y3, LeO (impl_lcpRows.l0 k y0 y1 y2 y3) (impl_lcpRows.l0 (k + 1) y0 y1 y2 y3))
 | 0 => fun _ _ _ _ r h => by simp [impl_lcpRows.l0] at h
 | k + 1 => by
  have ih0 := impl_lcpRows.mono_l k
  ·intro y0 y1 y2 y3
   unfold impl_lcpRows.l0
   repeat' first|(with_reducible first|exact ih0 _ _ _ _|exact impl_common.mono _ _ _|exact impl_suffixRows.mono _ _|exact LeO.refl _|exact LeO.none _|refine LeO.ite ?_ ?_|refine LeO.bind ?_ (fun _ => ?_))|exact LeO.none _|refine LeO.ite ?_ ?_|refine LeO.bind ?_ (fun _ => ?_)
theorem impl_lcpRows.mono : ∀ a0 k, LeO (impl_lcpRows.f k a0) (impl_lcpRows.f (k + 1) a0) := by
 intro a0 k
 have ih0 := impl_lcpRows.mono_l k
 unfold impl_lcpRows.f
 repeat' first|(with_reducible first|exact ih0 _ _ _ _|exact impl_common.mono _ _ _|exact impl_suffixRows.mono _ _|exact LeO.refl _|exact LeO.none _|refine LeO.ite ?_ ?_|refine LeO.bind ?_ (fun _ => ?_))|exact LeO.none _|refine LeO.ite ?_ ?_|refine LeO.bind ?_ (fun _ => ?_)
def impl_lcpRows.T6 : Bool × List (List Nat × List Nat) := (true, [([], []), ([], []), ([], []), ([], []), ([], []), ([4], [4]), ([3, 5], [3, 5]), ([6], [6]), ([2, 7], [2, 7]), ([], []), ([], []), ([], []), ([10, 11], [10, 11]), ([12], [12]), ([9, 13], [9, 13]), ([8, 14], [8, 14]), ([0, 1, 0, 1, 2, 3, 4, 5, 6, 7, 8, 9, 10, 11, 12, 13, 14, 15], [0, 1]), ([16, 15, 15, 0, 1, 2, 3, 4, 5, 6, 7, 8, 9, 10, 11, 12, 13, 14, 15], [15, 16])])
def impl_lcpRows.B6 : List Nat := [0, 0, 0, 0, 0, 16, 56, 120, 252, 0, 0, 0, 3072, 7168, 15872, 32764, 65535, 131071]
theorem impl_lcpRows.tab6 : rtab .any (opsOf Try.f41 6) = impl_lcpRows.T6 := by kernel_rfl
theorem impl_lcpRows.bits6 : waitsOk impl_lcpRows.T6.2 impl_lcpRows.B6 = true := by kernel_rfl
abbrev impl_lcpRows.m0 : Array Bool := #[F,F,F,F,F,F,F,F,F,F,F,F,F,F,F,F,F,F]
abbrev impl_lcpRows.m1 : Array Bool := #[T,F,F,F,F,F,F,F,F,F,F,F,F,F,F,F,F,F]
abbrev impl_lcpRows.m2 : Array Bool := #[T,T,F,F,F,F,F,F,F,F,F,F,F,F,F,F,F,F]
abbrev impl_lcpRows.m3 : Array Bool := #[T,T,T,F,F,F,F,F,F,F,F,F,F,F,F,F,F,F]
abbrev impl_lcpRows.m4 : Array Bool := #[T,T,T,T,F,F,F,F,F,F,F,F,F,F,F,F,F,F]
abbrev impl_lcpRows.m5 : Array Bool := #[T,T,T,T,T,F,F,F,F,F,F,F,F,F,F,F,F,F]
abbrev impl_lcpRows.m6 : Array Bool := #[T,T,T,T,T,T,F,F,F,F,F,F,F,F,F,F,F,F]
abbrev impl_lcpRows.m7 : Array Bool := #[T,T,T,T,T,T,T,F,F,F,F,F,F,F,F,F,F,F]
abbrev impl_lcpRows.m8 : Array Bool := #[T,T,T,T,T,T,T,F,F,T,F,F,F,F,F,F,F,F]
abbrev impl_lcpRows.m9 : Array Bool := #[T,T,T,T,T,T,T,F,F,T,T,F,F,F,F,F,F,F]
abbrev impl_lcpRows.m10 : Array Bool := #[T,T,T,T,T,T,T,F,F,T,T,T,F,F,F,F,F,F]
abbrev impl_lcpRows.m11 : Array Bool := #[T,T,T,T,T,T,T,F,F,T,T,T,T,F,F,F,F,F]
abbrev impl_lcpRows.m12 : Array Bool := #[T,T,T,T,T,T,T,T,F,T,T,T,T,F,F,F,F,F]
abbrev impl_lcpRows.m13 : Array Bool := #[T,T,T,T,T,T,T,T,T,T,T,T,T,F,F,F,F,F]
abbrev impl_lcpRows.m14 : Array Bool := #[T,T,T,T,T,T,T,T,T,T,T,T,T,T,F,F,F,F]
abbrev impl_lcpRows.m15 : Array Bool := #[T,T,T,T,T,T,T,T,T,T,T,T,T,T,T,F,F,F]
abbrev impl_lcpRows.m16 : Array Bool := #[T,T,T,T,T,T,T,T,T,T,T,T,T,T,T,T,F,F]
abbrev impl_lcpRows.m17 : Array Bool := #[T,T,T,T,T,T,T,T,T,T,T,T,T,T,T,T,T,F]
abbrev impl_lcpRows.m18 : Array Bool := #[T,T,T,T,T,T,T,T,T,T,T,T,T,T,T,T,T,T]
set_option maxHeartbeats 8000000 in
set_option maxRecDepth 100000 in
theorem impl_lcpRows.calls (k : Nat) (A0 : Option Addr) (c0 : Nat) (l0 : List Int) (r : List Int) (w : World) (hr0 : Kd.C (Kd.int .u8) w A0 l0.length l0) (hc0 : l0.length ≤ c0) (h : impl_lcpRows.f k l0 = some r) :
  Calls Try.prog 41 #[.slice A0 l0.length c0] w fun e w' => ∃ v0_ : Value, e = .returned (v0_) ∧ Kd.R (Kd.int .i64) 3 w' w.heap.size (fun _ => True) v0_ r ∧ Below w.heap.size w w' := by
 have HR0:=mk0 hr0
 have HC0:=mk0 hc0
 clear hr0 hc0
 have HB:=mk0 (Below.refl w.heap.size w)
 have H:((impl_suffixRows.f k l0).bind fun t206=>(if 0 ≤ (t206.length:Int) then (if ((t206.length:Int):Int).toNat ≤ 35184372088832 then (impl_lcpRows.l0 k l0 1 t206 (List.replicate ((t206.length:Int):Int).toNat 0)) else (none)) else (none))) = some r:=h
 clear h
 replace H:=Option.bind_eq_some_iff.mp H
 obtain⟨t206,A20,H⟩:=H
 replace H:(if 0 ≤ (t206.length:Int) then (if ((t206.length:Int):Int).toNat ≤ 35184372088832 then (impl_lcpRows.l0 k l0 1 t206 (List.replicate ((t206.length:Int):Int).toNat 0)) else (none)) else (none)) = some r:=H
 have A2:=mk0 A20
 clear A20
 by_cases c3:0 ≤ (t206.length:Int)
 rotate_left
 ·rw [if_neg c3] at H
  exact absurd H (by simp)

 rw [if_pos c3] at H
 have c3b0:=eq_true c3
 have c3b1:decide (0 ≤ (t206.length:Int)) = true:=decide_eq_true c3
 clear c3
 by_cases c4:((t206.length:Int):Int).toNat ≤ 35184372088832
 rotate_left
 ·rw [if_neg c4] at H
  exact absurd H (by simp)
 rw [if_pos c4] at H
 have c4b0:=eq_true c4
 have c4b1:decide (((t206.length:Int):Int).toNat ≤ 35184372088832) = true:=decide_eq_true c4
 clear c4
 obtain⟨y209,hy209⟩:∃ y_:List Int,y_ = (List.replicate ((t206.length:Int):Int).toNat 0):=⟨_,rfl⟩
 replace H:(impl_lcpRows.l0 k l0 1 t206 y209) = some r:=by first|(rw [hy209];with_reducible exact H)|(have H2_:=(Option.bind_some _ _).symm.trans H;rw [hy209];with_reducible exact H2_)|(have H2_:=(Option.bind_some _ _).symm.trans H;with_reducible exact H2_)|with_reducible exact H|(rw [hy209];exact H)|exact H
 have Ny209:=mk0 hy209
 clear hy209
 have H':=mk0 H
 clear H
 go_enter Try.func41,Try.ntmps41
 go_wp2_with (first|((with_reducible refine gate_callee (f:=44) rfl ?_);refine goesL_ (some 7) rfl rfl Try.func44 (by kernel_rfl) rfl #[.slice A0 l0.length c0] rfl (by (try simp only [mA,mC,mN]);first|done|rfl|(simp only [List.length_drop,List.length_take];done)|(simp only [List.length_drop,List.length_take];rfl)) ?_;(with_reducible refine (impl_suffixRows.calls k _ _ l0 t206 _ ?side1 ?side2 A2.out).mono ?_);(case side1=>repeat (first|exact HR0.out|(with_reducible first|apply aC|apply nC|apply dC)));(case side2=>exact HC0.out);rintro e w5 ⟨v207,rfl,ho0,hb⟩;refine⟨_,rfl,?_⟩;have HO208:=mk0 (Kd.R_lower ho0 (kZ HB.out));replace HB:=mk0 (kS HB.out hb);(try clear hb);(try clear ho0);obtain⟨Ao6,co6,eo6⟩:=Kd.R_slice HO208.out;subst eo6)|((with_reducible refine gate_dst (N:=10) rfl ?_);refine Kd.R_make (Kd.int .i64) _ 3 rfl (N:=10) rfl 48 _ _ rfl (t206.length:Int) rfl rfl Try.underlying48 (.int .i64 0) 8 info3 rfl (by decide) (by omega) 0 (ok:=fun _=>True) (okp:=fun _=>True) rfl (fun _ hk=>hk) trivial (of_decide_eq_true (by first|(with_reducible assumption)|assumption)) (Nat.le_trans (Nat.mul_le_mul_right _ (of_decide_eq_true (by first|(with_reducible assumption)|assumption):(t206.length:Int).toNat ≤ 35184372088832)) (by omega)) (Below.refl _ _) (Nat.le_refl _) ?_;intro v210 w7 ho8 hb hg_ hnew_;clear hg_ hnew_;(first|rw [← Ny209.out] at ho8|(simp only [Int.reduceToNat] at ho8;rw [← Ny209.out] at ho8));have HO211:=mk0 (Kd.R_lower (Kd.R_new' ho8 (Kd.R_lt (rR HO208.out))) (kZ HB.out));replace HO208:=mk0 (Kd.R_elder' (rR HO208.out) (Kd.R_base ho8) hb);replace HB:=mk0 (kS HB.out hb);clear hb ho8))
 go_loopg [5] k (fun kq v5 w'=>∃ (x5_1:Int) (x10_1:List Int),v5 = .int .i64 x5_1 ∧ Aside0 (impl_lcpRows.l0 kq l0 x5_1 t206 x10_1 = some r) ∧ Aside0 (kq ≤ k) ∧ Aside0 (Kd.R (Kd.int .i64) 3 w' w.heap.size (fun k_=>some k_ ≠ (v210:Value).ownBlock) (.slice Ao6 t206.length co6) t206) ∧ Aside0 (Kd.R (Kd.int .i64) 3 w' w.heap.size (fun k_=>some k_ ≠ ((.slice Ao6 t206.length co6):Value).ownBlock) v210 x10_1) ∧ Aside0 (Below w.heap.size w w'))
 case atStart=>exact⟨(1),(y209),(by first|rfl|(simp;done)|(simp [*];done)),H',⟨Nat.le_refl _⟩,⟨rR (Kd.R_mono HO208.out (fun _ hk=>hk.2))⟩,⟨rR (Kd.R_mono HO211.out (fun _ hk=>hk.2))⟩,⟨kB HB.out⟩⟩
 case round =>
  clear H'
  try clear p2
  try clear c3
  try clear c3b0
  try clear c3b1
  try clear c4
  try clear c4b0
  try clear c4b1
  obtain⟨x5_1,x10_1,rfl,HA,HK1,HO_7,HO_10,HB⟩:=hrel
  cases gk with
  | zero=>exact absurd HA.out (by simp [impl_lcpRows.l0])
  | succ k1 =>
   have H:=HA.out
   clear HA
   simp only [impl_lcpRows.l0] at H
   by_cases c9:x5_1 < (t206.length:Int)
   rotate_left
   ·rw [if_neg c9] at H
    have c9b0:decide (x5_1 < (t206.length:Int)) = false:=decide_eq_false c9
    clear c9
    obtain rfl:=Option.some.inj H
    go_wp2
    go_ret
    exact⟨_,by first|rfl|(simp [errW_none,errW_some] <;> rfl)|(simp [*,errW_none,errW_some] <;> rfl),rR (Kd.R_mono HO_10.out (fun _ hk=>trivial)),kB HB.out⟩
   rw [if_pos c9] at H
   have c9b0:decide (x5_1 < (t206.length:Int)) = true:=decide_eq_true c9
   clear c9
   obtain⟨ji10,hji10⟩:∃ j_:Int,(wrap64 (x5_1 - 1)) = j_:=⟨_,rfl⟩
   replace H:(if 0 ≤ (ji10) then (if (ji10) < (t206.length:Int) then (if 0 ≤ (rd t206 (ji10)) then (if (rd t206 (ji10)) ≤ (l0.length:Int) then (if 0 ≤ x5_1 then (if 0 ≤ (rd t206 x5_1) then (if (rd t206 x5_1) ≤ (l0.length:Int) then ((impl_common.f k1 (l0.drop ((rd t206 (ji10)):Int).toNat) (l0.drop ((rd t206 x5_1):Int).toNat)).bind fun t216=>(if x5_1 < (x10_1.length:Int) then (impl_lcpRows.l0 k1 l0 (wrap64 (x5_1 + 1)) t206 (x10_1.set (x5_1:Int).toNat t216)) else (none))) else (none)) else (none)) else (none)) else (none)) else (none)) else (none)) else (none)) = some r:=by first|(rw [hji10] at H;exact H)|(simp only [hji10] at H ⊢;exact H)
   have hji10w:(IntKind.i64.wrap (x5_1 - 1)) = ji10:=(i64_w _).trans hji10
   by_cases c11:0 ≤ (ji10)
   rotate_left
   ·rw [if_neg c11] at H
    exact absurd H (by simp)
   rw [if_pos c11] at H
   have c11b0:decide (0 ≤ (ji10)) = true:=decide_eq_true c11
   clear c11
   by_cases c12:(ji10) < (t206.length:Int)
   rotate_left
   ·rw [if_neg c12] at H
    exact absurd H (by simp)
   rw [if_pos c12] at H
   have c12b0:decide ((ji10) < (t206.length:Int)) = true:=decide_eq_true c12
   clear c12
   by_cases c13:0 ≤ (rd t206 (ji10))
   rotate_left
   ·rw [if_neg c13] at H
    exact absurd H (by simp)
   rw [if_pos c13] at H
   have c13b0:=eq_true c13
   have c13b1:decide (0 ≤ (rd t206 (ji10))) = true:=decide_eq_true c13
   clear c13
   by_cases c14:(rd t206 (ji10)) ≤ (l0.length:Int)
   rotate_left
   ·rw [if_neg c14] at H
    exact absurd H (by simp)
   rw [if_pos c14] at H
   have c14b0:=eq_true c14
   have c14b1:decide ((rd t206 (ji10)) ≤ (l0.length:Int)) = true:=decide_eq_true c14
   clear c14
   by_cases c15:0 ≤ x5_1
   rotate_left
   ·rw [if_neg c15] at H
    exact absurd H (by simp)
   rw [if_pos c15] at H
   have c15b0:decide (0 ≤ x5_1) = true:=decide_eq_true c15
   clear c15
   by_cases c16:0 ≤ (rd t206 x5_1)
   rotate_left
   ·rw [if_neg c16] at H
    exact absurd H (by simp)
   rw [if_pos c16] at H
   have c16b0:=eq_true c16
   have c16b1:decide (0 ≤ (rd t206 x5_1)) = true:=decide_eq_true c16
   clear c16
   by_cases c17:(rd t206 x5_1) ≤ (l0.length:Int)
   rotate_left
   ·rw [if_neg c17] at H
    exact absurd H (by simp)
   rw [if_pos c17] at H
   have c17b0:=eq_true c17
   have c17b1:decide ((rd t206 x5_1) ≤ (l0.length:Int)) = true:=decide_eq_true c17
   clear c17
   replace H:=Option.bind_eq_some_iff.mp H
   obtain⟨t216,A180,H⟩:=H
   replace H:(if x5_1 < (x10_1.length:Int) then (impl_lcpRows.l0 k1 l0 (wrap64 (x5_1 + 1)) t206 (x10_1.set (x5_1:Int).toNat t216)) else (none)) = some r:=H
   have A18:=mk0 A180
   clear A180
   by_cases c19:x5_1 < (x10_1.length:Int)
   rotate_left
   ·rw [if_neg c19] at H
    exact absurd H (by simp)
   rw [if_pos c19] at H
   have c19b0:decide (x5_1 < (x10_1.length:Int)) = true:=decide_eq_true c19
   clear c19
   obtain⟨y217,hy217⟩:∃ y_:List Int,y_ = (x10_1.set (x5_1:Int).toNat t216):=⟨_,rfl⟩
   replace H:(impl_lcpRows.l0 k1 l0 (wrap64 (x5_1 + 1)) t206 y217) = some r:=by first|(rw [hy217];with_reducible exact H)|(have H2_:=(Option.bind_some _ _).symm.trans H;rw [hy217];with_reducible exact H2_)|(have H2_:=(Option.bind_some _ _).symm.trans H;with_reducible exact H2_)|with_reducible exact H|(rw [hy217];exact H)|exact H
   have Ny217:=mk0 hy217
   clear hy217
   have H':=mk0 H
   clear H
   try go_wp2
   replace HO_7:=mk0 (dR HO_7.out)
   replace HO_10:=mk0 (dR HO_10.out)
   replace HB:=mk0 (dZ HB.out)
   have p212:0 ≤ ((ji10):Int):=of_decide_eq_true (by first|(with_reducible assumption)|assumption)
   have q212:(ji10) < (t206.length:Int):=of_decide_eq_true (by first|(with_reducible assumption)|assumption)
   obtain⟨ad212,e212,hx212_0⟩:=Kd.at_int (Kd.R_reads' HO_7.out).2.2 (ji10) p212 q212
   cases e212
   replace p212:=eq_true p212
   replace q212:=eq_true q212
   obtain⟨i022,hi022,_,hsz22,_⟩:=info_parts info5
   obtain⟨A22,hcut22,hA22,hC22⟩:=print_drop_of (P:=Try.prog) (Value.int .u8) 0 22 5 .i64 Try.underlying22 hi022 hsz22 A0 c0 l0 (rd t206 (ji10)) (of_decide_eq_true (by first|(with_reducible assumption)|assumption)) (of_decide_eq_true (by first|(with_reducible assumption)|assumption)) HC0.out
   have HR213:=mk0 (Kd.C_of_reads (h1:=fun _=>rfl) (hA22 _ (Kd.reads_of_C HR0.out)))
   have HC213:=mk0 hC22
   clear hA22 hC22 hi022 hsz22
   have p214:0 ≤ (x5_1:Int):=of_decide_eq_true (by first|(with_reducible assumption)|assumption)
   have q214:x5_1 < (t206.length:Int):=of_decide_eq_true (by first|(with_reducible assumption)|assumption)
   obtain⟨ad214,e214,hx214_0⟩:=Kd.at_int (Kd.R_reads' HO_7.out).2.2 x5_1 p214 q214
   obtain rfl:ad212 = ad214:=(by injection e214)
   replace p214:=eq_true p214
   replace q214:=eq_true q214
   obtain⟨i023,hi023,_,hsz23,_⟩:=info_parts info5
   obtain⟨A23,hcut23,hA23,hC23⟩:=print_drop_of (P:=Try.prog) (Value.int .u8) 0 22 5 .i64 Try.underlying22 hi023 hsz23 A0 c0 l0 (rd t206 x5_1) (of_decide_eq_true (by first|(with_reducible assumption)|assumption)) (of_decide_eq_true (by first|(with_reducible assumption)|assumption)) HC0.out
   have HR215:=mk0 (Kd.C_of_reads (h1:=fun _=>rfl) (hA23 _ (Kd.reads_of_C HR0.out)))
   have HC215:=mk0 hC23
   clear hA23 hC23 hi023 hsz23
   refine start_ (n:=18) (S:=fun w'=>w'.cell? (ad212.add ((ji10)).toNat) = some (.int .i64 (rd t206 (ji10))) ∧ w'.cell? (ad212.add (x5_1).toNat) = some (.int .i64 (rd t206 x5_1))) (ds:=[17]) impl_lcpRows.m0 (by kernel_rfl) rfl rfl ⟨hx212_0,hx214_0⟩ (fun hHeld=>?_);refine with_tabW impl_lcpRows.tab6 impl_lcpRows.bits6 (fun HT_ HW_=>?_)
   generalize wr.drew = w21 at HO_7 HO_10 HB HR213 HR215 hx212_0 hx214_0 hHeld ⊢
   refine pure_ (i:=0) (N:=some 17) (v:=?_) (a':=?_) impl_lcpRows.m1 rfl rfl (any_of HT_.out (by kernel_rfl)) (fun _ _ _ h=>h) (Or.inl ⟨by rfl,?_⟩) ?_ ?_
   rotate_left
   ·intro w'
    go_simp
    with_reducible rfl
   rotate_left
   ·simp only [Act.put,sA,sO,sS,i64_w,i32_w]
    rfl
   refine pure_ (i:=1) (N:=some 18) (v:=?_) (a':=?_) impl_lcpRows.m2 rfl rfl (any_of HT_.out (by kernel_rfl)) (fun _ _ _ h=>h) (Or.inl ⟨by rfl,?_⟩) ?_ ?_
   rotate_left
   ·intro w'
    go_simp
    with_reducible rfl
   rotate_left
   ·simp only [Act.put,sA,sO,sS,i64_w,i32_w]
    rfl
   refine pure_ (i:=2) (N:=some 19) (v:=?_) (a':=?_) impl_lcpRows.m3 rfl rfl (any_of HT_.out (by kernel_rfl)) (fun _ _ _ h=>h) (Or.inl ⟨by rfl,?_⟩) ?_ ?_
   rotate_left
   ·intro w'
    go_simp
    with_reducible rfl
   rotate_left
   ·simp only [Act.put,sA,sO,sS,i64_w,i32_w]
    rfl
   refine pure_ (i:=3) (N:=some 20) (v:=?_) (a':=?_) impl_lcpRows.m4 rfl rfl (any_of HT_.out (by kernel_rfl)) (fun _ _ _ h=>h) (Or.inl ⟨by rfl,?_⟩) ?_ ?_
   rotate_left
   ·intro w'
    go_simp
    with_reducible rfl
   rotate_left
   ·simp only [Act.put,sA,sO,sS,i64_w,i32_w]
    rfl
   refine pure_ (i:=4) (N:=some 21) (v:=?_) (a':=?_) impl_lcpRows.m5 rfl rfl (any_of HT_.out (by kernel_rfl)) (fun _ _ _ h=>h) (Or.inl ⟨by rfl,?_⟩) ?_ ?_
   rotate_left
   ·intro w'
    go_simp
    with_reducible rfl
   rotate_left
   ·simp only [Act.put,sA,sO,sS,i64_w,i32_w]
    rfl
   refine pure_ (i:=5) (N:=some 22) (v:=?_) (a':=?_) impl_lcpRows.m6 rfl rfl (any_of HT_.out (by kernel_rfl)) (fun _ _ _ h=>h) (Or.inl ⟨by rfl,?_⟩) ?_ ?_
   rotate_left
   ·intro w'
    go_simp
    with_reducible rfl
   rotate_left
   ·simp only [Act.put,sA,sO,sS,i64_w,i32_w]
    rfl
   refine pure_ (i:=6) (N:=some 23) (v:=?_) (a':=?_) impl_lcpRows.m7 rfl rfl (any_of HT_.out (by kernel_rfl)) (fun _ _ _ h=>h) (Or.inl ⟨by rfl,?_⟩) ?_ ?_
   rotate_left
   ·intro w'
    go_simp
    with_reducible rfl
   rotate_left
   ·simp only [Act.put,sA,sO,sS,i64_w,i32_w]
    rfl
   refine pure_ (i:=9) (N:=some 26) (v:=?_) (a':=?_) impl_lcpRows.m8 rfl rfl (any_of HT_.out (by kernel_rfl)) (fun _ _ _ h=>h) (Or.inl ⟨by rfl,?_⟩) ?_ ?_
   rotate_left
   ·intro w'
    go_simp
    with_reducible rfl
   rotate_left
   ·simp only [Act.put,sA,sO,sS,i64_w,i32_w]
    rfl
   refine pure_ (i:=10) (N:=some 27) (v:=?_) (a':=?_) impl_lcpRows.m9 rfl rfl (any_of HT_.out (by kernel_rfl)) (fun _ _ _ h=>h) (Or.inl ⟨by rfl,?_⟩) ?_ ?_
   rotate_left
   ·intro w'
    go_simp
    with_reducible rfl
   rotate_left
   ·simp only [Act.put,sA,sO,sS,i64_w,i32_w]
    rfl
   refine pure_ (i:=11) (N:=some 28) (v:=?_) (a':=?_) impl_lcpRows.m10 rfl rfl (any_of HT_.out (by kernel_rfl)) (fun _ _ _ h=>h) (Or.inl ⟨by rfl,?_⟩) ?_ ?_
   rotate_left
   ·intro w'
    go_simp
    with_reducible rfl
   rotate_left
   ·simp only [Act.put,sA,sO,sS,i64_w,i32_w]
    rfl
   refine pure_ (i:=12) (N:=some 29) (v:=?_) (a':=?_) impl_lcpRows.m11 rfl rfl (any_of HT_.out (by kernel_rfl)) (fun _ _ _ h=>h) (Or.inl ⟨by rfl,?_⟩) ?_ ?_
   rotate_left
   ·intro w'
    go_simp
    with_reducible rfl
   rotate_left
   ·simp only [Act.put,sA,sO,sS,i64_w,i32_w]
    rfl
   refine take_ (i:=7) (N:=some 24) (v:=?_) (a':=?_) impl_lcpRows.m12 rfl rfl (take_ofW HT_.out HW_.out (by kernel_rfl)) (fun _ _ _ h=>h) (Or.inl ⟨by rfl,?_⟩) hHeld ?_ ?_
   rotate_left
   ·rintro w' ⟨s0,s1⟩
    go_simp
    with_reducible rfl
   rotate_left
   ·simp only [Act.put,sA,sO,sS,i64_w,i32_w]
    rfl
   refine pure_ (i:=8) (N:=some 25) (v:=?_) (a':=?_) impl_lcpRows.m13 rfl rfl (any_of HT_.out (by kernel_rfl)) (fun _ _ _ h=>h) (Or.inl ⟨by rfl,?_⟩) ?_ ?_
   rotate_left
   ·intro w'
    go_simp
    with_reducible rfl
   rotate_left
   ·simp only [Act.put,sA,sO,sS,i64_w,i32_w]
    rfl
   refine take_ (i:=13) (N:=some 30) (v:=?_) (a':=?_) impl_lcpRows.m14 rfl rfl (take_ofW HT_.out HW_.out (by kernel_rfl)) (fun _ _ _ h=>h) (Or.inl ⟨by rfl,?_⟩) hHeld ?_ ?_
   rotate_left
   ·rintro w' ⟨s0,s1⟩
    go_simp
    with_reducible rfl
   rotate_left
   ·simp only [Act.put,sA,sO,sS,i64_w,i32_w]
    rfl
   refine pure_ (i:=14) (N:=some 31) (v:=?_) (a':=?_) impl_lcpRows.m15 rfl rfl (any_of HT_.out (by kernel_rfl)) (fun _ _ _ h=>h) (Or.inl ⟨by rfl,?_⟩) ?_ ?_
   rotate_left
   ·intro w'
    go_simp
    with_reducible rfl
   rotate_left
   ·simp only [Act.put,sA,sO,sS,i64_w,i32_w]
    rfl
   refine one_ (i:=15) (N:=some 32) impl_lcpRows.m16 rfl rfl (one_of HT_.out (by kernel_rfl)) (by decide) (fun K hK=>?_)
   refine goes_ Try.func63 (by kernel_rfl) rfl #[.slice A22 (l0.drop ((rd t206 (ji10)):Int).toNat).length (c0 - (rd t206 (ji10)).toNat),.slice A23 (l0.drop ((rd t206 x5_1):Int).toNat).length (c0 - (rd t206 x5_1).toNat)] (by rfl) rfl rfl (by (try simp only [mA,mC,mN]);first|done|(rw [show (l0.drop ((rd t206 (ji10)):Int).toNat).length = (l0.length - (rd t206 (ji10)).toNat) from List.length_drop] <;> rfl)|(rw [show (l0.drop ((rd t206 x5_1):Int).toNat).length = (l0.length - (rd t206 x5_1).toNat) from List.length_drop] <;> rfl)|(simp only [hji10];rfl)|rfl|(simp only [List.length_drop,List.length_take];done)|(simp only [List.length_drop,List.length_take];rfl)) ?_
   with_reducible refine (impl_common.calls k1 _ _ (l0.drop ((rd t206 (ji10)):Int).toNat) _ _ (l0.drop ((rd t206 x5_1):Int).toNat) t216 _ ?side1 ?side2 ?side3 ?side4 A18.out).mono ?_
   (case side1=>exact kC (Kd.C_below HR213.out HB.out))
   (case side2=>exact HC213.out)
   (case side3=>exact kC (Kd.C_below HR215.out HB.out))
   (case side4=>exact HC215.out)
   rintro e w24 ⟨rfl,hb⟩
   have HS0_:=(hb.cell (World.block_lt_of_cell? _ _ (hHeld.1))).trans (hHeld.1)
   have HS1_:=(hb.cell (World.block_lt_of_cell? _ _ (hHeld.2))).trans (hHeld.2)
   refine⟨_,rfl,?_⟩
   replace HO_7:=mk0 (bR HO_7.out hb)
   replace HO_10:=mk0 (bR HO_10.out hb)
   replace HB:=mk0 (kS HB.out hb)
   (try clear hb)
   have p20:0 ≤ (x5_1:Int):=of_decide_eq_true (by first|(with_reducible assumption)|assumption)
   have q20:(x5_1:Int) < ((x10_1.length:Int):Int):=of_decide_eq_true (by first|(with_reducible assumption)|assumption)
   obtain⟨go20,co20,eo20,gb20,gl20,cl20,HG20⟩:=Kd.R_form HO_10.out (by omega)
   (first|cases eo20|(injection eo20 with ea_ en_ ec_;(first|subst ea_|(injection ea_ with ea_;subst ea_));subst ec_;clear en_))
   have GB20:=mk0 gb20
   have GG20:=mk0 HG20
   clear gb20 gl20 HG20
   obtain⟨hx20_0,hf20_0⟩:=Kd.R_celln 0 HO_10.out (x5_1:Int) p20 q20
   replace p20:=eq_true p20
   replace q20:=eq_true q20
   have HP25:=Kd.R_putn HO_10.out (x5_1:Int) t216
   rw [← Ny217.out] at HP25
   have HQ25:=mk0 HP25
   clear HP25
   refine hK.out _ _ ⟨HS0_,HS1_⟩ (fun hHeld=>?_)
   clear hK K
   refine norm_ (a':=?_) ?_ ?_
   rotate_left
   ·show Act.put _ (some 32) _ = _
    simp only [Act.put,sA,sO,sS,i64_w,i32_w]
    rfl
   refine pure_ (i:=16) (N:=some 33) (v:=?_) (a':=?_) impl_lcpRows.m17 rfl rfl (any_of HT_.out (by kernel_rfl)) (fun _ _ _ h=>h) (Or.inl ⟨by rfl,?_⟩) ?_ ?_
   rotate_left
   ·intro w'
    go_simp
    with_reducible rfl
   rotate_left
   ·simp only [Act.put,sA,sO,sS,i64_w,i32_w]
    rfl
   refine last_ (i:=17) (N:=none) impl_lcpRows.m18 rfl rfl (one_of HT_.out (by kernel_rfl)) (by decide) (fun K hK=>?_)
   refine skip_ (w1:=?_) (by rfl) rfl ?_ ?_
   rotate_left
   ·go_simp
    rfl
   refine hK.out _ _ ?_
   clear hK K
   refine done_ (done_of HT_.out (by kernel_rfl)) ?_
   try go_wp2
   go_roundg k1
   case measure=>have:=HK1.out;omega
   case rel=>exact⟨(wrap64 (x5_1 + 1)),(y217),(by first|rfl|(simp;done)|(simp [*];done)),H',⟨by have:=HK1.out;omega⟩,⟨by (with_reducible repeat (first|apply aR|apply nR|apply dR));exact Kd.R_mono (Kd.R_far (p:=⟨go20,(x5_1:Int).toNat,none⟩) (Kd.R_mono HO_7.out (fun k_ hk=>(⟨hk,fun e_=>hk (by rw [e_];rfl)⟩:_ ∧ k_ ≠ go20))) (fun _ hk=>hk.2) (.int .i64 t216)) (fun _ hk=>hk.1)⟩,⟨rR HQ25.out⟩,⟨kB HB.out⟩⟩
-- NOT PRINTED: function 104 (impl_Stretch_104)

-- NOT PRINTED: function 118 (impl_Stretch_118)

-- NOT PRINTED: function 105 (impl_Stretch_105)

-- NOT PRINTED: function 106 (impl_Stretch_106)

-- NOT PRINTED: function 122 (impl_Stretch_122)

-- NOT PRINTED: function 120 (impl_Stretch_120)

-- NOT PRINTED: function 119 (impl_Stretch_119)

-- NOT PRINTED: function 107 (impl_Stretch_107)

-- NOT PRINTED: function 108 (impl_Stretch_108)

-- NOT PRINTED: function 109 (impl_Stretch_109)

-- NOT PRINTED: function 110 (impl_Stretch_110)

-- NOT PRINTED: function 111 (impl_Stretch_111)

-- NOT PRINTED: function 89 (impl_Stretch_89)

-- NOT PRINTED: function 71 (impl_Stretch_71)

/-! ### cmp_Or_int: function 90 -/
def cmp_Or_int.l0 : Nat → Int → List Int → Int → Int → Option (Int)
 | 0, _, _, _, _ => none
 | k + 1, x3, x6, x7, x8 => if x8 < x7 then (if 0 ≤ x8 then (if x8 < (x6.length : Int) then (if (rd x6 x8) = x3 then (cmp_Or_int.l0 k x3 x6 x7 (wrap64 (x8 + 1))) else (some (rd x6 x8))) else (none)) else (none)) else (some x3)
def cmp_Or_int.f (k : Nat) (l0 : List Int) : Option (Int) := cmp_Or_int.l0 k 0 l0 (l0.length : Int) 0
theorem cmp_Or_int.mono_l : ∀ k, (∀ y0 y1 y2 y3, LeO (cmp_Or_int.l0 k y0 y1 y2 y3) (cmp_Or_int.l0 (k + 1) y0 y1 y2 y3))
 | 0 => fun _ _ _ _ r h => by simp [cmp_Or_int.l0] at h
 | k + 1 => by
  have ih0 := cmp_Or_int.mono_l k
  ·intro y0 y1 y2 y3
   unfold cmp_Or_int.l0
   repeat' first|(with_reducible first|exact ih0 _ _ _ _|exact LeO.refl _|exact LeO.none _|refine LeO.ite ?_ ?_|refine LeO.bind ?_ (fun _ => ?_))|exact LeO.none _|refine LeO.ite ?_ ?_|refine LeO.bind ?_ (fun _ => ?_)
theorem cmp_Or_int.mono : ∀ a0 k, LeO (cmp_Or_int.f k a0) (cmp_Or_int.f (k + 1) a0) := by
 intro a0 k
 have ih0 := cmp_Or_int.mono_l k
 unfold cmp_Or_int.f
 repeat' first|(with_reducible first|exact ih0 _ _ _ _|exact LeO.refl _|exact LeO.none _|refine LeO.ite ?_ ?_|refine LeO.bind ?_ (fun _ => ?_))|exact LeO.none _|refine LeO.ite ?_ ?_|refine LeO.bind ?_ (fun _ => ?_)
set_option maxHeartbeats 8000000 in
set_option maxRecDepth 100000 in
theorem cmp_Or_int.calls (k : Nat) (A0 : Option Addr) (c0 : Nat) (l0 : List Int) (r : Int) (w : World) (hr0 : Kd.C (Kd.int .i64) w A0 l0.length l0) (hc0 : l0.length ≤ c0) (h : cmp_Or_int.f k l0 = some r) :
  Calls Try.prog 90 #[.slice A0 l0.length c0] w fun e w' => e = .returned (.int .i64 r) ∧ Drawn0 w w' := by
 have HR0:=mk0 hr0
 have HC0:=mk0 hc0
 clear hr0 hc0
 have H:(cmp_Or_int.l0 k 0 l0 (l0.length:Int) 0) = some r:=h
 clear h
 have H':=mk0 H
 clear H
 go_enter Try.func90,Try.ntmps90
 go_wp2
 go_loopg [8] k (fun kq v8 w'=>∃ (x8_1:Int),v8 = .int .i64 x8_1 ∧ Aside0 (cmp_Or_int.l0 kq 0 l0 (l0.length:Int) x8_1 = some r) ∧ Aside0 (kq ≤ k) ∧ Drawn0 w w')
 case atStart=>exact⟨(0),(by first|rfl|(simp;done)|(simp [*];done)),H',⟨Nat.le_refl _⟩,by repeat (first|exact Drawn0.refl _|apply Drawn0.step)⟩
 case round =>
  clear H'
  obtain⟨x8_1,rfl,HA,HK1,⟨m1,rfl⟩⟩:=hrel
  cases gk with
  | zero=>exact absurd HA.out (by simp [cmp_Or_int.l0])
  | succ k1 =>
   have H:=HA.out
   clear HA
   simp only [cmp_Or_int.l0] at H
   by_cases c2:x8_1 < (l0.length:Int)
   ·rw [if_pos c2] at H
    have c2b0:decide (x8_1 < (l0.length:Int)) = true:=decide_eq_true c2
    clear c2
    by_cases c3:0 ≤ x8_1
    ·rw [if_pos c3] at H
     have c3b0:decide (0 ≤ x8_1) = true:=decide_eq_true c3
     clear c3
     by_cases c4:x8_1 < (l0.length:Int)
     ·rw [if_pos c4] at H
      have c4b0:decide (x8_1 < (l0.length:Int)) = true:=decide_eq_true c4
      clear c4
      by_cases c5:(rd l0 x8_1) = 0
      ·rw [if_pos c5] at H
       have c5b0:((rd l0 x8_1) == 0) = true:=beq_iff_eq.mpr c5
       have c5b1:((rd l0 x8_1) != 0) = false:=bne_eq_false_iff_eq.mpr c5
       clear c5
       have H':=mk0 H
       clear H
       have p218:0 ≤ (x8_1:Int):=of_decide_eq_true (by first|(with_reducible assumption)|assumption)
       have q218:x8_1 < (l0.length:Int):=of_decide_eq_true (by first|(with_reducible assumption)|assumption)
       obtain⟨ad218,e218,hx218_0⟩:=Kd.at_int HR0.out x8_1 p218 q218
       cases e218
       replace p218:=eq_true p218
       replace q218:=eq_true q218
       go_wp2
       go_roundg k1
       case measure=>have:=HK1.out;omega
       case rel=>exact⟨(wrap64 (x8_1 + 1)),(by first|rfl|(simp;done)|(simp [*];done)),H',⟨by have:=HK1.out;omega⟩,by repeat (first|exact Drawn0.refl _|apply Drawn0.step)⟩
      ·rw [if_neg c5] at H
       have c5b0:((rd l0 x8_1) == 0) = false:=beq_eq_false_iff_ne.mpr c5
       have c5b1:((rd l0 x8_1) != 0) = true:=bne_iff_ne.mpr c5
       obtain rfl:=Option.some.inj H
       have p218:0 ≤ (x8_1:Int):=of_decide_eq_true (by first|(with_reducible assumption)|assumption)
       have q218:x8_1 < (l0.length:Int):=of_decide_eq_true (by first|(with_reducible assumption)|assumption)
       obtain⟨ad218,e218,hx218_0⟩:=Kd.at_int HR0.out x8_1 p218 q218
       cases e218
       replace p218:=eq_true p218
       replace q218:=eq_true q218
       go_wp2
       go_ret
       exact⟨by first|rfl|(simp;done)|(simp [*];done),by repeat (first|exact Drawn0.refl _|apply Drawn0.step)⟩
     ·rw [if_neg c4] at H
      exact absurd H (by simp)
    ·rw [if_neg c3] at H
     exact absurd H (by simp)
   ·rw [if_neg c2] at H
    have c2b0:decide (x8_1 < (l0.length:Int)) = false:=decide_eq_false c2
    clear c2
    obtain rfl:=Option.some.inj H
    go_wp2
    go_ret
    exact⟨by first|rfl|(simp;done)|(simp [*];done),by repeat (first|exact Drawn0.refl _|apply Drawn0.step)⟩

/-! ### cmp_isNaN_int: function 112 -/
def cmp_isNaN_int.f (a0 : Int) : Option (Bool) := some (a0 != a0)
set_option maxHeartbeats 8000000 in
set_option maxRecDepth 100000 in
theorem cmp_isNaN_int.calls (a0 : Int) (r : Bool) (w : World) (h : cmp_isNaN_int.f a0 = some r) :
  Calls Try.prog 112 #[.int .i64 a0] w fun e w' => e = .returned (.bool r) ∧ Drawn0 w w' := by
 have H:(some (a0 != a0)) = some r:=h
 clear h
 obtain rfl:=Option.some.inj H
 go_enter Try.func112,Try.ntmps112
 go_wp2
 go_ret
 exact⟨by first|rfl|(simp;done)|(simp [*];done),by repeat (first|exact Drawn0.refl _|apply Drawn0.step)⟩

/-! ### cmp_Compare_int: function 91 -/
def cmp_Compare_int.f (a0 : Int) (a1 : Int) : Option (Int) := (cmp_isNaN_int.f a0).bind fun t219 => ((cmp_isNaN_int.f a1).bind fun t220 => (if t219 = true then (if t220 = true then (some 0) else (some (-1))) else (if t220 = true then (some 1) else (if a0 < a1 then (some (-1)) else (if a0 > a1 then (some 1) else (some 0))))))
set_option maxHeartbeats 8000000 in
set_option maxRecDepth 100000 in
theorem cmp_Compare_int.calls (a0 : Int) (a1 : Int) (r : Int) (w : World) (h : cmp_Compare_int.f a0 a1 = some r) :
  Calls Try.prog 91 #[.int .i64 a0, .int .i64 a1] w fun e w' => e = .returned (.int .i64 r) ∧ Drawn0 w w' := by
 have H:((cmp_isNaN_int.f a0).bind fun t219=>((cmp_isNaN_int.f a1).bind fun t220=>(if t219 = true then (if t220 = true then (some 0) else (some (-1))) else (if t220 = true then (some 1) else (if a0 < a1 then (some (-1)) else (if a0 > a1 then (some 1) else (some 0))))))) = some r:=h
 clear h
 replace H:=Option.bind_eq_some_iff.mp H
 obtain⟨t219,A30,H⟩:=H
 replace H:((cmp_isNaN_int.f a1).bind fun t220=>(if t219 = true then (if t220 = true then (some 0) else (some (-1))) else (if t220 = true then (some 1) else (if a0 < a1 then (some (-1)) else (if a0 > a1 then (some 1) else (some 0)))))) = some r:=H
 have A3:=mk0 A30
 clear A30
 replace H:=Option.bind_eq_some_iff.mp H
 obtain⟨t220,A40,H⟩:=H
 replace H:(if t219 = true then (if t220 = true then (some 0) else (some (-1))) else (if t220 = true then (some 1) else (if a0 < a1 then (some (-1)) else (if a0 > a1 then (some 1) else (some 0))))) = some r:=H
 have A4:=mk0 A40
 clear A40
 by_cases c5:t219 = true
 ·subst c5
  have H1:(if t220 = true then (some 0) else (some (-1))) = some r:=by rw [if_pos rfl] at H;exact H
  clear H
  have H:=H1
  clear H1
  by_cases c6:t220 = true
  ·subst c6
   have H1:(some 0) = some r:=by rw [if_pos rfl] at H;exact H
   clear H
   have H:=H1
   clear H1
   obtain rfl:=Option.some.inj H
   go_enter Try.func91,Try.ntmps91
   go_wp2_with (first|((with_reducible refine gate_callee (f:=112) rfl ?_);refine goesL_ (some 8) rfl rfl Try.func112 (by kernel_rfl) rfl #[.int .i64 a0] rfl (by (try simp only [mA,mC,mN]);first|done|rfl|(simp only [List.length_drop,List.length_take];done)|(simp only [List.length_drop,List.length_take];rfl)) ?_;(with_reducible refine (cmp_isNaN_int.calls a0 true _ A3.out).mono ?_);rintro e w' ⟨rfl,⟨nd,rfl⟩⟩;refine⟨_,rfl,?_⟩)|((with_reducible refine gate_callee (f:=112) rfl ?_);refine goesL_ (some 10) rfl rfl Try.func112 (by kernel_rfl) rfl #[.int .i64 a1] rfl (by (try simp only [mA,mC,mN]);first|done|rfl|(simp only [List.length_drop,List.length_take];done)|(simp only [List.length_drop,List.length_take];rfl)) ?_;(with_reducible refine (cmp_isNaN_int.calls a1 true _ A4.out).mono ?_);rintro e w' ⟨rfl,⟨nd,rfl⟩⟩;refine⟨_,rfl,?_⟩))
   go_ret
   exact⟨by first|rfl|(simp;done)|(simp [*];done),by repeat (first|exact Drawn0.refl _|apply Drawn0.step)⟩
  ·replace c6:=Bool.eq_false_iff.mpr c6
   subst c6
   have H1:(some (-1)) = some r:=by rw [if_neg (show ¬ (false = true) by decide)] at H;exact H
   clear H
   have H:=H1
   clear H1
   obtain rfl:=Option.some.inj H
   go_enter Try.func91,Try.ntmps91
   go_wp2_with (first|((with_reducible refine gate_callee (f:=112) rfl ?_);refine goesL_ (some 8) rfl rfl Try.func112 (by kernel_rfl) rfl #[.int .i64 a0] rfl (by (try simp only [mA,mC,mN]);first|done|rfl|(simp only [List.length_drop,List.length_take];done)|(simp only [List.length_drop,List.length_take];rfl)) ?_;(with_reducible refine (cmp_isNaN_int.calls a0 true _ A3.out).mono ?_);rintro e w' ⟨rfl,⟨nd,rfl⟩⟩;refine⟨_,rfl,?_⟩)|((with_reducible refine gate_callee (f:=112) rfl ?_);refine goesL_ (some 10) rfl rfl Try.func112 (by kernel_rfl) rfl #[.int .i64 a1] rfl (by (try simp only [mA,mC,mN]);first|done|rfl|(simp only [List.length_drop,List.length_take];done)|(simp only [List.length_drop,List.length_take];rfl)) ?_;(with_reducible refine (cmp_isNaN_int.calls a1 false _ A4.out).mono ?_);rintro e w' ⟨rfl,⟨nd,rfl⟩⟩;refine⟨_,rfl,?_⟩))
   go_ret
   exact⟨by first|rfl|(simp;done)|(simp [*];done),by repeat (first|exact Drawn0.refl _|apply Drawn0.step)⟩
 ·replace c5:=Bool.eq_false_iff.mpr c5
  subst c5
  have H1:(if t220 = true then (some 1) else (if a0 < a1 then (some (-1)) else (if a0 > a1 then (some 1) else (some 0)))) = some r:=by rw [if_neg (show ¬ (false = true) by decide)] at H;exact H
  clear H
  have H:=H1
  clear H1
  by_cases c7:t220 = true
  ·subst c7
   have H1:(some 1) = some r:=by rw [if_pos rfl] at H;exact H
   clear H
   have H:=H1
   clear H1
   obtain rfl:=Option.some.inj H
   go_enter Try.func91,Try.ntmps91
   go_wp2_with (first|((with_reducible refine gate_callee (f:=112) rfl ?_);refine goesL_ (some 8) rfl rfl Try.func112 (by kernel_rfl) rfl #[.int .i64 a0] rfl (by (try simp only [mA,mC,mN]);first|done|rfl|(simp only [List.length_drop,List.length_take];done)|(simp only [List.length_drop,List.length_take];rfl)) ?_;(with_reducible refine (cmp_isNaN_int.calls a0 false _ A3.out).mono ?_);rintro e w' ⟨rfl,⟨nd,rfl⟩⟩;refine⟨_,rfl,?_⟩)|((with_reducible refine gate_callee (f:=112) rfl ?_);refine goesL_ (some 10) rfl rfl Try.func112 (by kernel_rfl) rfl #[.int .i64 a1] rfl (by (try simp only [mA,mC,mN]);first|done|rfl|(simp only [List.length_drop,List.length_take];done)|(simp only [List.length_drop,List.length_take];rfl)) ?_;(with_reducible refine (cmp_isNaN_int.calls a1 true _ A4.out).mono ?_);rintro e w' ⟨rfl,⟨nd,rfl⟩⟩;refine⟨_,rfl,?_⟩))
   go_ret
   exact⟨by first|rfl|(simp;done)|(simp [*];done),by repeat (first|exact Drawn0.refl _|apply Drawn0.step)⟩
  ·replace c7:=Bool.eq_false_iff.mpr c7
   subst c7
   have H1:(if a0 < a1 then (some (-1)) else (if a0 > a1 then (some 1) else (some 0))) = some r:=by rw [if_neg (show ¬ (false = true) by decide)] at H;exact H
   clear H
   have H:=H1
   clear H1
   by_cases c8:a0 < a1
   ·rw [if_pos c8] at H
    have c8b0:decide (a0 < a1) = true:=decide_eq_true c8
    clear c8
    obtain rfl:=Option.some.inj H
    go_enter Try.func91,Try.ntmps91
    go_wp2_with (first|((with_reducible refine gate_callee (f:=112) rfl ?_);refine goesL_ (some 8) rfl rfl Try.func112 (by kernel_rfl) rfl #[.int .i64 a0] rfl (by (try simp only [mA,mC,mN]);first|done|rfl|(simp only [List.length_drop,List.length_take];done)|(simp only [List.length_drop,List.length_take];rfl)) ?_;(with_reducible refine (cmp_isNaN_int.calls a0 false _ A3.out).mono ?_);rintro e w' ⟨rfl,⟨nd,rfl⟩⟩;refine⟨_,rfl,?_⟩)|((with_reducible refine gate_callee (f:=112) rfl ?_);refine goesL_ (some 10) rfl rfl Try.func112 (by kernel_rfl) rfl #[.int .i64 a1] rfl (by (try simp only [mA,mC,mN]);first|done|rfl|(simp only [List.length_drop,List.length_take];done)|(simp only [List.length_drop,List.length_take];rfl)) ?_;(with_reducible refine (cmp_isNaN_int.calls a1 false _ A4.out).mono ?_);rintro e w' ⟨rfl,⟨nd,rfl⟩⟩;refine⟨_,rfl,?_⟩))
    go_ret
    exact⟨by first|rfl|(simp;done)|(simp [*];done),by repeat (first|exact Drawn0.refl _|apply Drawn0.step)⟩
   ·rw [if_neg c8] at H
    have c8b0:decide (a0 < a1) = false:=decide_eq_false c8
    clear c8
    by_cases c9:a0 > a1
    ·rw [if_pos c9] at H
     have c9b0:decide (a1 < a0) = true:=decide_eq_true c9
     clear c9
     obtain rfl:=Option.some.inj H
     go_enter Try.func91,Try.ntmps91
     go_wp2_with (first|((with_reducible refine gate_callee (f:=112) rfl ?_);refine goesL_ (some 8) rfl rfl Try.func112 (by kernel_rfl) rfl #[.int .i64 a0] rfl (by (try simp only [mA,mC,mN]);first|done|rfl|(simp only [List.length_drop,List.length_take];done)|(simp only [List.length_drop,List.length_take];rfl)) ?_;(with_reducible refine (cmp_isNaN_int.calls a0 false _ A3.out).mono ?_);rintro e w' ⟨rfl,⟨nd,rfl⟩⟩;refine⟨_,rfl,?_⟩)|((with_reducible refine gate_callee (f:=112) rfl ?_);refine goesL_ (some 10) rfl rfl Try.func112 (by kernel_rfl) rfl #[.int .i64 a1] rfl (by (try simp only [mA,mC,mN]);first|done|rfl|(simp only [List.length_drop,List.length_take];done)|(simp only [List.length_drop,List.length_take];rfl)) ?_;(with_reducible refine (cmp_isNaN_int.calls a1 false _ A4.out).mono ?_);rintro e w' ⟨rfl,⟨nd,rfl⟩⟩;refine⟨_,rfl,?_⟩))
     go_ret
     exact⟨by first|rfl|(simp;done)|(simp [*];done),by repeat (first|exact Drawn0.refl _|apply Drawn0.step)⟩
    ·rw [if_neg c9] at H
     have c9b0:decide (a1 < a0) = false:=decide_eq_false c9
     clear c9
     obtain rfl:=Option.some.inj H
     go_enter Try.func91,Try.ntmps91
     go_wp2_with (first|((with_reducible refine gate_callee (f:=112) rfl ?_);refine goesL_ (some 8) rfl rfl Try.func112 (by kernel_rfl) rfl #[.int .i64 a0] rfl (by (try simp only [mA,mC,mN]);first|done|rfl|(simp only [List.length_drop,List.length_take];done)|(simp only [List.length_drop,List.length_take];rfl)) ?_;(with_reducible refine (cmp_isNaN_int.calls a0 false _ A3.out).mono ?_);rintro e w' ⟨rfl,⟨nd,rfl⟩⟩;refine⟨_,rfl,?_⟩)|((with_reducible refine gate_callee (f:=112) rfl ?_);refine goesL_ (some 10) rfl rfl Try.func112 (by kernel_rfl) rfl #[.int .i64 a1] rfl (by (try simp only [mA,mC,mN]);first|done|rfl|(simp only [List.length_drop,List.length_take];done)|(simp only [List.length_drop,List.length_take];rfl)) ?_;(with_reducible refine (cmp_isNaN_int.calls a1 false _ A4.out).mono ?_);rintro e w' ⟨rfl,⟨nd,rfl⟩⟩;refine⟨_,rfl,?_⟩))
     go_ret
     exact⟨by first|rfl|(simp;done)|(simp [*];done),by repeat (first|exact Drawn0.refl _|apply Drawn0.step)⟩

/-! ### impl_compareStretches: function 72 -/
def impl_compareStretches.f (k : Nat) (a0_0 : Int) (a0_1 : Int) (a0_2 : Int) (a1_0 : Int) (a1_1 : Int) (a1_2 : Int) : Option (Int) := (cmp_Compare_int.f a0_0 a1_0).bind fun t223 => ((cmp_Compare_int.f a1_1 a0_1).bind fun t224 => ((cmp_Or_int.f k (([t223, t224] : List Int))).bind fun t228 => (some t228)))
theorem impl_compareStretches.mono : ∀ a0 a1 a2 a3 a4 a5 k, LeO (impl_compareStretches.f k a0 a1 a2 a3 a4 a5) (impl_compareStretches.f (k + 1) a0 a1 a2 a3 a4 a5) := by
 intro a0 a1 a2 a3 a4 a5 k
 unfold impl_compareStretches.f
 repeat' first|(with_reducible first|exact cmp_Or_int.mono _ _|exact LeO.refl _|exact LeO.none _|refine LeO.ite ?_ ?_|refine LeO.bind ?_ (fun _ => ?_))|exact LeO.none _|refine LeO.ite ?_ ?_|refine LeO.bind ?_ (fun _ => ?_)
def impl_compareStretches.T1 : Bool × List (List Nat × List Nat) := (true, [([], []), ([0], [0]), ([], []), ([2], [2]), ([1, 3], [1, 3]), ([], []), ([5], [5]), ([], []), ([7], [7]), ([6, 8, 4], [6, 8]), ([4, 9], [4, 9]), ([10, 9], [10]), ([11, 11, 0, 1, 2, 3, 4, 5, 6, 7, 8, 9, 10, 11], [11])])
def impl_compareStretches.B1 : List Nat := [0, 1, 0, 4, 15, 0, 32, 0, 128, 511, 1023, 2047, 4095]
theorem impl_compareStretches.tab1 : rtab .any (opsOf Try.f72 1) = impl_compareStretches.T1 := by kernel_rfl
theorem impl_compareStretches.bits1 : waitsOk impl_compareStretches.T1.2 impl_compareStretches.B1 = true := by kernel_rfl
abbrev impl_compareStretches.m0 : Array Bool := #[F,F,F,F,F,F,F,F,F,F,F,F,F]
abbrev impl_compareStretches.m1 : Array Bool := #[T,F,F,F,F,F,F,F,F,F,F,F,F]
abbrev impl_compareStretches.m2 : Array Bool := #[T,F,T,F,F,F,F,F,F,F,F,F,F]
abbrev impl_compareStretches.m3 : Array Bool := #[T,F,T,F,F,T,F,F,F,F,F,F,F]
abbrev impl_compareStretches.m4 : Array Bool := #[T,F,T,F,F,T,F,T,F,F,F,F,F]
abbrev impl_compareStretches.m5 : Array Bool := #[T,T,T,F,F,T,F,T,F,F,F,F,F]
abbrev impl_compareStretches.m6 : Array Bool := #[T,T,T,T,F,T,F,T,F,F,F,F,F]
abbrev impl_compareStretches.m7 : Array Bool := #[T,T,T,T,F,T,T,T,F,F,F,F,F]
abbrev impl_compareStretches.m8 : Array Bool := #[T,T,T,T,F,T,T,T,T,F,F,F,F]
abbrev impl_compareStretches.m9 : Array Bool := #[T,T,T,T,T,T,T,T,T,F,F,F,F]
abbrev impl_compareStretches.m10 : Array Bool := #[T,T,T,T,T,T,T,T,T,T,F,F,F]
abbrev impl_compareStretches.m11 : Array Bool := #[T,T,T,T,T,T,T,T,T,T,T,F,F]
abbrev impl_compareStretches.m12 : Array Bool := #[T,T,T,T,T,T,T,T,T,T,T,T,F]
abbrev impl_compareStretches.m13 : Array Bool := #[T,T,T,T,T,T,T,T,T,T,T,T,T]
set_option maxHeartbeats 8000000 in
set_option maxRecDepth 100000 in
theorem impl_compareStretches.calls (k : Nat) (a0_0 : Int) (a0_1 : Int) (a0_2 : Int) (a1_0 : Int) (a1_1 : Int) (a1_2 : Int) (r : Int) (w : World) (h : impl_compareStretches.f k a0_0 a0_1 a0_2 a1_0 a1_1 a1_2 = some r) :
  Calls Try.prog 72 #[.agg #[.int .i64 a0_0, .int .i64 a0_1, .int .i64 a0_2], .agg #[.int .i64 a1_0, .int .i64 a1_1, .int .i64 a1_2]] w fun e w' => e = .returned (.int .i64 r) ∧ Below w.heap.size w w' := by
 have hu27:=Try.underlying27
 have HB:=mk0 (Below.refl w.heap.size w)
 have H:((cmp_Compare_int.f a0_0 a1_0).bind fun t223=>((cmp_Compare_int.f a1_1 a0_1).bind fun t224=>((cmp_Or_int.f k (([t223,t224]:List Int))).bind fun t228=>(some t228)))) = some r:=h
 clear h
 replace H:=Option.bind_eq_some_iff.mp H
 obtain⟨t223,A30,H⟩:=H
 replace H:((cmp_Compare_int.f a1_1 a0_1).bind fun t224=>((cmp_Or_int.f k (([t223,t224]:List Int))).bind fun t228=>(some t228))) = some r:=H
 have A3:=mk0 A30
 clear A30
 replace H:=Option.bind_eq_some_iff.mp H
 obtain⟨t224,A40,H⟩:=H
 replace H:((cmp_Or_int.f k (([t223,t224]:List Int))).bind fun t228=>(some t228)) = some r:=H
 have A4:=mk0 A40
 clear A40
 obtain⟨y225,hy225⟩:∃ y_:List Int,y_ = (([t223,t224]:List Int)):=⟨_,rfl⟩
 replace H:((cmp_Or_int.f k y225).bind fun t228=>(some t228)) = some r:=by first|(rw [hy225];with_reducible exact H)|(have H2_:=(Option.bind_some _ _).symm.trans H;rw [hy225];with_reducible exact H2_)|(have H2_:=(Option.bind_some _ _).symm.trans H;with_reducible exact H2_)|with_reducible exact H|(rw [hy225];exact H)|exact H
 have Ny225:=mk0 hy225
 clear hy225
 replace H:=Option.bind_eq_some_iff.mp H
 obtain⟨t228,A50,H⟩:=H
 replace H:(some t228) = some r:=H
 have A5:=mk0 A50
 clear A50
 obtain rfl:=Option.some.inj H
 go_enter Try.func72,Try.ntmps72
 try go_wp2_with (first|((with_reducible refine gate_dst (N:=2) rfl ?_);refine box_event ?hg (N:=2) ?hd (cs:=#[.int .i64 a0_0,.int .i64 a0_1,.int .i64 a0_2]) (t:=27) ?hr ?_;(case hd=>rfl);(case hg=>rfl);(case hr=>first|(go_simp;done)|(go_simp;rfl));intro gb221 hg w6 hbox hb;have BK221:=mk0 (hbox);have GW221:=mk0 ((by rw [hg];exact (kZ HB.out):w.heap.size ≤ gb221));have GE221:=mk0 ((by rw [hg];exact (kZ HB.out):w.heap.size ≤ gb221));replace HB:=mk0 (kS HB.out hb);clear hb hbox hg)|((with_reducible refine gate_dst (N:=3) rfl ?_);refine box_event ?hg (N:=3) ?hd (cs:=#[.int .i64 a1_0,.int .i64 a1_1,.int .i64 a1_2]) (t:=27) ?hr ?_;(case hd=>rfl);(case hg=>rfl);(case hr=>first|(go_simp;done)|(go_simp;rfl));intro gb222 hg w7 hbox hb;have BK222:=mk0 (hbox);have GW222:=mk0 ((by rw [hg];exact (kZ HB.out):w.heap.size ≤ gb222));have GE222:=mk0 ((by rw [hg];exact (kZ HB.out):w.heap.size ≤ gb222));replace HB:=mk0 (kS HB.out hb);have NB221_222:=mk0 ((by rw [hg];exact Nat.ne_of_lt (kL BK221.out):gb221 ≠ gb222));have NB222_221:=mk0 ((by rw [hg];exact Nat.ne_of_gt (kL BK221.out):gb222 ≠ gb221));replace BK221:=mk0 (kK BK221.out hb);clear hb hbox hg))
 replace BK221:=mk0 (dB BK221.out)
 replace BK222:=mk0 (dB BK222.out)
 replace HB:=mk0 (dZ HB.out)
 refine start_ (n:=13) (S:=fun w'=>w'.cell? ⟨gb221,0,none⟩ = some (.int .i64 a0_0) ∧ w'.cell? ⟨gb221,1,none⟩ = some (.int .i64 a0_1) ∧ w'.cell? ⟨gb221,2,none⟩ = some (.int .i64 a0_2) ∧ w'.cell? ⟨gb222,0,none⟩ = some (.int .i64 a1_0) ∧ w'.cell? ⟨gb222,1,none⟩ = some (.int .i64 a1_1) ∧ w'.cell? ⟨gb222,2,none⟩ = some (.int .i64 a1_2)) (ds:=[]) impl_compareStretches.m0 (by kernel_rfl) rfl rfl ⟨(blk_cell BK221.out 0).trans rfl,(blk_cell BK221.out 1).trans rfl,(blk_cell BK221.out 2).trans rfl,(blk_cell BK222.out 0).trans rfl,(blk_cell BK222.out 1).trans rfl,(blk_cell BK222.out 2).trans rfl⟩ (fun hHeld=>?_);refine with_tabW impl_compareStretches.tab1 impl_compareStretches.bits1 (fun HT_ HW_=>?_)
 generalize w7.drew = w8 at BK221 BK222 HB hHeld ⊢
 refine pure_ (i:=0) (N:=some 5) (v:=?_) (a':=?_) impl_compareStretches.m1 rfl rfl (any_of HT_.out (by kernel_rfl)) (fun _ _ _ h=>h) (Or.inl ⟨by rfl,?_⟩) ?_ ?_
 rotate_left
 ·intro w'
  go_simp
  with_reducible rfl
 rotate_left
 ·simp only [Act.put,sA,sO,sS,i64_w,i32_w]
  rfl
 refine pure_ (i:=2) (N:=some 7) (v:=?_) (a':=?_) impl_compareStretches.m2 rfl rfl (any_of HT_.out (by kernel_rfl)) (fun _ _ _ h=>h) (Or.inl ⟨by rfl,?_⟩) ?_ ?_
 rotate_left
 ·intro w'
  go_simp
  with_reducible rfl
 rotate_left
 ·simp only [Act.put,sA,sO,sS,i64_w,i32_w]
  rfl
 refine pure_ (i:=5) (N:=some 10) (v:=?_) (a':=?_) impl_compareStretches.m3 rfl rfl (any_of HT_.out (by kernel_rfl)) (fun _ _ _ h=>h) (Or.inl ⟨by rfl,?_⟩) ?_ ?_
 rotate_left
 ·intro w'
  go_simp
  with_reducible rfl
 rotate_left
 ·simp only [Act.put,sA,sO,sS,i64_w,i32_w]
  rfl
 refine pure_ (i:=7) (N:=some 12) (v:=?_) (a':=?_) impl_compareStretches.m4 rfl rfl (any_of HT_.out (by kernel_rfl)) (fun _ _ _ h=>h) (Or.inl ⟨by rfl,?_⟩) ?_ ?_
 rotate_left
 ·intro w'
  go_simp
  with_reducible rfl
 rotate_left
 ·simp only [Act.put,sA,sO,sS,i64_w,i32_w]
  rfl
 refine take_ (i:=1) (N:=some 6) (v:=?_) (a':=?_) impl_compareStretches.m5 rfl rfl (take_ofW HT_.out HW_.out (by kernel_rfl)) (fun _ _ _ h=>h) (Or.inl ⟨by rfl,?_⟩) hHeld ?_ ?_
 rotate_left
 ·rintro w' ⟨s0,s1,s2,s3,s4,s5⟩
  go_simp
  with_reducible rfl
 rotate_left
 ·simp only [Act.put,sA,sO,sS,i64_w,i32_w]
  rfl
 refine take_ (i:=3) (N:=some 8) (v:=?_) (a':=?_) impl_compareStretches.m6 rfl rfl (take_ofW HT_.out HW_.out (by kernel_rfl)) (fun _ _ _ h=>h) (Or.inl ⟨by rfl,?_⟩) hHeld ?_ ?_
 rotate_left
 ·rintro w' ⟨s0,s1,s2,s3,s4,s5⟩
  go_simp
  with_reducible rfl
 rotate_left
 ·simp only [Act.put,sA,sO,sS,i64_w,i32_w]
  rfl
 refine take_ (i:=6) (N:=some 11) (v:=?_) (a':=?_) impl_compareStretches.m7 rfl rfl (take_ofW HT_.out HW_.out (by kernel_rfl)) (fun _ _ _ h=>h) (Or.inl ⟨by rfl,?_⟩) hHeld ?_ ?_
 rotate_left
 ·rintro w' ⟨s0,s1,s2,s3,s4,s5⟩
  go_simp
  with_reducible rfl
 rotate_left
 ·simp only [Act.put,sA,sO,sS,i64_w,i32_w]
  rfl
 refine take_ (i:=8) (N:=some 13) (v:=?_) (a':=?_) impl_compareStretches.m8 rfl rfl (take_ofW HT_.out HW_.out (by kernel_rfl)) (fun _ _ _ h=>h) (Or.inl ⟨by rfl,?_⟩) hHeld ?_ ?_
 rotate_left
 ·rintro w' ⟨s0,s1,s2,s3,s4,s5⟩
  go_simp
  with_reducible rfl
 rotate_left
 ·simp only [Act.put,sA,sO,sS,i64_w,i32_w]
  rfl
 refine one_ (i:=4) (N:=some 9) impl_compareStretches.m9 rfl rfl (one_of HT_.out (by kernel_rfl)) (by decide) (fun K hK=>?_)
 refine goes_ Try.func91 (by kernel_rfl) rfl #[.int .i64 a0_0,.int .i64 a1_0] (by rfl) rfl rfl (by (try simp only [mA,mC,mN]);first|done|rfl|(simp only [List.length_drop,List.length_take];done)|(simp only [List.length_drop,List.length_take];rfl)) ?_
 with_reducible refine (cmp_Compare_int.calls a0_0 a1_0 t223 _ A3.out).mono ?_
 rintro e w' ⟨rfl,⟨nd,rfl⟩⟩
 refine⟨_,rfl,?_⟩
 refine hK.out _ _ ⟨(blk_cell BK221.out 0).trans rfl,(blk_cell BK221.out 1).trans rfl,(blk_cell BK221.out 2).trans rfl,(blk_cell BK222.out 0).trans rfl,(blk_cell BK222.out 1).trans rfl,(blk_cell BK222.out 2).trans rfl⟩ (fun hHeld=>?_)
 clear hK K
 refine norm_ (a':=?_) ?_ ?_
 rotate_left
 ·show Act.put _ (some 9) _ = _
  simp only [Act.put,sA,sO,sS,i64_w,i32_w]
  rfl
 refine one_ (i:=9) (N:=some 14) impl_compareStretches.m10 rfl rfl (one_of HT_.out (by kernel_rfl)) (by decide) (fun K hK=>?_)
 refine goes_ Try.func91 (by kernel_rfl) rfl #[.int .i64 a1_1,.int .i64 a0_1] (by rfl) rfl rfl (by (try simp only [mA,mC,mN]);first|done|rfl|(simp only [List.length_drop,List.length_take];done)|(simp only [List.length_drop,List.length_take];rfl)) ?_
 with_reducible refine (cmp_Compare_int.calls a1_1 a0_1 t224 _ A4.out).mono ?_
 rintro e w' ⟨rfl,⟨nd,rfl⟩⟩
 refine⟨_,rfl,?_⟩
 refine hK.out _ _ ⟨(blk_cell BK221.out 0).trans rfl,(blk_cell BK221.out 1).trans rfl,(blk_cell BK221.out 2).trans rfl,(blk_cell BK222.out 0).trans rfl,(blk_cell BK222.out 1).trans rfl,(blk_cell BK222.out 2).trans rfl⟩ (fun hHeld=>?_)
 clear hK K
 refine norm_ (a':=?_) ?_ ?_
 rotate_left
 ·show Act.put _ (some 14) _ = _
  simp only [Act.put,sA,sO,sS,i64_w,i32_w]
  rfl
 refine one_ (i:=10) (N:=some 15) impl_compareStretches.m11 rfl rfl (one_of HT_.out (by kernel_rfl)) (by decide) (fun K hK=>?_)
 refine Kd.R_lit_step (Kd.int .i64) _ 3 ?hg (N:=15) ?hd (xs:=([t223,t224]:List Int)) (inner:=[.int .i64 t223,.int .i64 t224]) (ok:=fun _=>True) (okp:=fun _=>True) ?hr ?hp (fun _ hk=>hk) trivial (Below.refl _ _) (Nat.le_refl _) (by simp) ?_;(case hd=>rfl);(case hg=>rfl);(case hr=>first|(go_simp;done)|(go_simp;rfl));(case hp=>exact (Reps.one (show Kd.M (Kd.int .i64) _ _ _ t223 [.int .i64 t223] from rfl) (Reps.one (show Kd.M (Kd.int .i64) _ _ _ t224 [.int .i64 t224] from rfl) (Reps.none _ _))))
 intro v226 w9 ho10 hb hg_ hnew_
 clear hg_ hnew_
 (first|rw [← Ny225.out] at ho10|(simp only [Int.reduceToNat] at ho10;rw [← Ny225.out] at ho10))
 have HO227:=mk0 (Kd.R_lower ho10 (kZ HB.out))
 replace BK221:=mk0 (kK BK221.out hb)
 replace BK222:=mk0 (kK BK222.out hb)
 replace HB:=mk0 (kS HB.out hb)
 clear hb ho10
 obtain⟨Ao11,co11,eo11⟩:=Kd.R_slice HO227.out
 (first|subst eo11|(injection eo11 with f1_ f2_ f3_;have f4_:=f1_.symm;have f5_:=f3_.symm;clear f1_ f2_ f3_;subst f4_;subst f5_))
 refine hK.out _ _ ⟨(blk_cell BK221.out 0).trans rfl,(blk_cell BK221.out 1).trans rfl,(blk_cell BK221.out 2).trans rfl,(blk_cell BK222.out 0).trans rfl,(blk_cell BK222.out 1).trans rfl,(blk_cell BK222.out 2).trans rfl⟩ (fun hHeld=>?_)
 clear hK K
 refine norm_ (a':=?_) ?_ ?_
 rotate_left
 ·show Act.put _ (some 15) _ = _
  simp only [Act.put,sA,sO,sS,i64_w,i32_w]
  rfl
 refine one_ (i:=11) (N:=some 16) impl_compareStretches.m12 rfl rfl (one_of HT_.out (by kernel_rfl)) (by decide) (fun K hK=>?_)
 refine goes_ Try.func90 (by kernel_rfl) rfl #[.slice Ao11 y225.length co11] (by rfl) rfl rfl (by (try simp only [mA,mC,mN]);first|done|rfl|(simp only [List.length_drop,List.length_take];done)|(simp only [List.length_drop,List.length_take];rfl)) ?_
 with_reducible refine (cmp_Or_int.calls k _ _ y225 t228 _ ?side1 ?side2 A5.out).mono ?_
 (case side1=>exact kC (Kd.R_reads' HO227.out).2.2)
 (case side2=>exact (Kd.R_reads' HO227.out).2.1)
 rintro e w' ⟨rfl,⟨nd,rfl⟩⟩
 refine⟨_,rfl,?_⟩
 refine hK.out _ _ ⟨(blk_cell BK221.out 0).trans rfl,(blk_cell BK221.out 1).trans rfl,(blk_cell BK221.out 2).trans rfl,(blk_cell BK222.out 0).trans rfl,(blk_cell BK222.out 1).trans rfl,(blk_cell BK222.out 2).trans rfl⟩ (fun hHeld=>?_)
 clear hK K
 refine norm_ (a':=?_) ?_ ?_
 rotate_left
 ·show Act.put _ (some 16) _ = _
  simp only [Act.put,sA,sO,sS,i64_w,i32_w]
  rfl
 refine pure_ (i:=12) (N:=some 4) (v:=?_) (a':=?_) impl_compareStretches.m13 rfl rfl (any_of HT_.out (by kernel_rfl)) (fun _ _ _ h=>h) (Or.inl ⟨by rfl,?_⟩) ?_ ?_
 rotate_left
 ·intro w'
  go_simp
  with_reducible rfl
 rotate_left
 ·simp only [Act.put,sA,sO,sS,i64_w,i32_w]
  rfl
 refine done_ (done_of HT_.out (by kernel_rfl)) ?_
 try go_wp2
 go_ret
 exact⟨by first|rfl|(simp [errW_none,errW_some] <;> rfl)|(simp [*,errW_none,errW_some] <;> rfl),kB HB.out⟩


/-! ### impl_Stretch_73: function 73 (by hand) -/
def impl_Stretch_73.f (l0 : List S27) : Option (List S27) := if l0.length ≤ 4611686018427387904 then some ((Go.Lib.compact (l0.map fun x : S27 => (x.f0, x.f1, x.f2))).map fun t : Int × Int × Int => (⟨t.1, t.2.1, t.2.2⟩ : S27)) else none
theorem impl_Stretch_73.calls (P0_ : Nat → Prop) (u9000_ : Value) (l0 : List S27) (r : List S27) (w0 w : World) (hB : Below w0.heap.size w0 w) (ho0 : Kd.R k27 27 w w0.heap.size P0_ u9000_ l0) (h : impl_Stretch_73.f l0 = some r) :
    Calls Try.prog 73 #[u9000_] w fun e w' => ∃ v0_ : Value, e = .returned (v0_) ∧ Kd.R k27 27 w' w0.heap.size (fun k_ => (P0_ k_ ∨ w.heap.size ≤ k_)) v0_ r ∧ Below w0.heap.size w0 w' ∧ Kept w w' (fun k_ => P0_ k_) := by
  unfold impl_Stretch_73.f at h
  split at h
  · rename_i hc
    obtain rfl := Option.some.inj h
    exact Str.compactStr k27 (fun x : S27 => (x.f0, x.f1, x.f2)) (fun t => ⟨t.1, t.2.1, t.2.2⟩) (fun _ => rfl) rfl (fun _ _ _ _ _ h => k27_openM h) (fun w b ok x => k27_mkM w b ok x) P0_ u9000_ l0 w0 w hB ho0 hc
  · exact absurd h (by simp)


/-! ### slices_SortFunc_72: slices.SortFunc at compareStretches -/
def slices_SortFunc_72.f (l0 : List S27) : Option (List S27) := if (Str.okP (l0.map fun x : S27 => (x.f0, x.f1, x.f2)) && decide (l0.length < 4611686018427387904)) = true then some (l0.mergeSort (Str.le3 fun x : S27 => (x.f0, x.f1, x.f2))) else none
theorem slices_SortFunc_72.calls (P0_ : Nat → Prop) (u9000_ : Value) (l0 : List S27) (r : List S27) (w0 w : World) (hB : Below w0.heap.size w0 w) (ho0 : Kd.R k27 27 w w0.heap.size P0_ u9000_ l0) (h : slices_SortFunc_72.f l0 = some r) :
    Calls Try.prog 71 #[u9000_, .func (.func 72) #[] #[]] w fun e w' => e = .returned (.tuple #[]) ∧ Kd.R k27 27 w' w0.heap.size (fun k_ => (P0_ k_ ∨ w.heap.size ≤ k_)) u9000_ r ∧ Below w0.heap.size w0 w' ∧ Kept w w' (fun k_ => P0_ k_) := by
  unfold slices_SortFunc_72.f at h
  split at h
  · rename_i hc
    obtain rfl := Option.some.inj h
    rw [Bool.and_eq_true, decide_eq_true_eq] at hc
    exact Str.sortStr' k27 (fun x : S27 => (x.f0, x.f1, x.f2)) (fun t => ⟨t.1, t.2.1, t.2.2⟩) (fun _ => rfl) rfl (fun _ _ _ _ _ h => k27_openM h) (fun w b ok x => k27_mkM w b ok x) P0_ u9000_ l0 w0 w hB ho0 hc.1 hc.2
  · exact absurd h (by simp)

end Go.Proofs.Ytoinagnieobbpaa.QFnExactStretchAll
