-- A walk, made by walk.py, a program of this session's.
import Derived.Test.YtoinagnieobbpaaQFnExactLongestx0
import Derived.Test.YtoinagnieobbpaaQFnExactLongestx1
namespace Go.Proofs.Ytoinagnieobbpaa.QFnExactLongest
open Go.RowKit Go.Proofs.YtoinagnieobbpaaW.PrintWords Go.Proofs.YtoinagnieobbpaaW.PrintLast Go.Proofs.YtoinagnieobbpaaW.PrintMore
attribute [local go_sem] max2_int min2_int max_two min_two max_three min_three max_four min_four   -- for this text's walks alone
set_option linter.unusedVariables false
set_option linter.unusedSimpArgs false

/-! ### impl_common: function 63 -/
def impl_common.l0 : Nat → List Int → List Int → Int → Option (Int)
 | 0, _, _, _ => none
 | k + 1, x0, x1, x5 => if x5 < (mn (x0.length : Int) (x1.length : Int)) then (if 0 ≤ x5 then (if x5 < (x0.length : Int) then (if x5 < (x1.length : Int) then (if (rd x0 x5) = (rd x1 x5) then (impl_common.l0 k x0 x1 (wrap64 (x5 + 1))) else (some x5)) else (none)) else (none)) else (none)) else (some x5)
def impl_common.f (k : Nat) (l0 : List Int) (l1 : List Int) : Option (Int) := impl_common.l0 k l0 l1 0
theorem impl_common.mono_l : ∀ k, (∀ y0 y1 y2, LeO (impl_common.l0 k y0 y1 y2) (impl_common.l0 (k + 1) y0 y1 y2))
 | 0 => fun _ _ _ r h => by simp [impl_common.l0] at h
 | k + 1 => by
  have ih0 := impl_common.mono_l k
  ·intro y0 y1 y2
   unfold impl_common.l0
   repeat' first|(with_reducible first|exact ih0 _ _ _|exact LeO.refl _|exact LeO.none _|refine LeO.ite ?_ ?_|refine LeO.bind ?_ (fun _ => ?_))|exact LeO.none _|refine LeO.ite ?_ ?_|refine LeO.bind ?_ (fun _ => ?_)
theorem impl_common.mono : ∀ a0 a1 k, LeO (impl_common.f k a0 a1) (impl_common.f (k + 1) a0 a1) := by
 intro a0 a1 k
 have ih0 := impl_common.mono_l k
 unfold impl_common.f
 repeat' first|(with_reducible first|exact ih0 _ _ _|exact LeO.refl _|exact LeO.none _|refine LeO.ite ?_ ?_|refine LeO.bind ?_ (fun _ => ?_))|exact LeO.none _|refine LeO.ite ?_ ?_|refine LeO.bind ?_ (fun _ => ?_)
set_option maxHeartbeats 8000000 in
set_option maxRecDepth 100000 in
theorem impl_common.calls (k : Nat) (A0 : Option Addr) (c0 : Nat) (l0 : List Int) (A1 : Option Addr) (c1 : Nat) (l1 : List Int) (r : Int) (w : World) (hr0 : Kd.C (Kd.int .u8) w A0 l0.length l0) (hc0 : l0.length ≤ c0) (hr1 : Kd.C (Kd.int .u8) w A1 l1.length l1) (hc1 : l1.length ≤ c1) (h : impl_common.f k l0 l1 = some r) :
  Calls Try.prog 63 #[.slice A0 l0.length c0, .slice A1 l1.length c1] w fun e w' => e = .returned (.int .i64 r) ∧ Below w.heap.size w w' := by
 have HR0:=mk0 hr0
 have HC0:=mk0 hc0
 clear hr0 hc0
 have HR1:=mk0 hr1
 have HC1:=mk0 hc1
 clear hr1 hc1
 have HB:=mk0 (Below.refl w.heap.size w)
 have H:(impl_common.l0 k l0 l1 0) = some r:=h
 clear h
 have H':=mk0 H
 clear H
 go_enter Try.func63,Try.ntmps63
 go_wp2
 repeat (go_quiet (fail);try go_wp2)
 go_loopg [5] k (fun kq v5 w'=>∃ (x5_1:Int),v5 = .int .i64 x5_1 ∧ Aside0 (impl_common.l0 kq l0 l1 x5_1 = some r) ∧ Aside0 (kq ≤ k) ∧ Aside0 (Below w.heap.size w w'))
 case atStart=>exact⟨(0),(by first|rfl|(simp;done)|(simp [*];done)),H',⟨Nat.le_refl _⟩,⟨kB HB.out⟩⟩
 case round =>
  clear H'
  try clear c1
  try clear p2
  obtain⟨x5_1,rfl,HA,HK1,HB⟩:=hrel
  cases gk with
  | zero=>exact absurd HA.out (by simp [impl_common.l0])
  | succ k1 =>
   have H:=HA.out
   clear HA
   simp only [impl_common.l0] at H
   obtain⟨ji3,hji3⟩:∃ j_:Int,(mn (l0.length:Int) (l1.length:Int)) = j_:=⟨_,rfl⟩
   replace H:(if x5_1 < (ji3) then (if 0 ≤ x5_1 then (if x5_1 < (l0.length:Int) then (if x5_1 < (l1.length:Int) then (if (rd l0 x5_1) = (rd l1 x5_1) then (impl_common.l0 k1 l0 l1 (wrap64 (x5_1 + 1))) else (some x5_1)) else (none)) else (none)) else (none)) else (some x5_1)) = some r:=by first|(rw [hji3] at H;exact H)|(simp only [hji3] at H ⊢;exact H)
   have hji3_:(if (l1.length:Int) < (l0.length:Int) then (l1.length:Int) else (l0.length:Int)) = ji3:=hji3
   have hji3n : (if l1.length < l0.length then (l1.length : Int) else (l0.length : Int)) = ji3 := by have e_ := hji3_; simp only [Int.ofNat_lt] at e_; exact e_
   by_cases c4:x5_1 < (ji3)
   ·rw [if_pos c4] at H
    have c4b0:decide (x5_1 < (ji3)) = true:=decide_eq_true c4
    clear c4
    by_cases c5:0 ≤ x5_1
    ·rw [if_pos c5] at H
     have c5b0:decide (0 ≤ x5_1) = true:=decide_eq_true c5
     clear c5
     by_cases c6:x5_1 < (l0.length:Int)
     ·rw [if_pos c6] at H
      have c6b0:decide (x5_1 < (l0.length:Int)) = true:=decide_eq_true c6
      clear c6
      by_cases c7:x5_1 < (l1.length:Int)
      ·rw [if_pos c7] at H
       have c7b0:decide (x5_1 < (l1.length:Int)) = true:=decide_eq_true c7
       clear c7
       by_cases c8:(rd l0 x5_1) = (rd l1 x5_1)
       ·rw [if_pos c8] at H
        have c8b0:((rd l0 x5_1) == (rd l1 x5_1)) = true:=beq_iff_eq.mpr c8
        have c8b1:((rd l0 x5_1) != (rd l1 x5_1)) = false:=bne_eq_false_iff_eq.mpr c8
        clear c8
        have H':=mk0 H
        clear H
        have p119:0 ≤ (x5_1:Int):=of_decide_eq_true (by first|(with_reducible assumption)|assumption)
        have q119:x5_1 < (l0.length:Int):=of_decide_eq_true (by first|(with_reducible assumption)|assumption)
        obtain⟨ad119,e119,hx119_0⟩:=Kd.at_int HR0.out x5_1 p119 q119
        cases e119
        replace hx119_0:=(HB.out.cell (World.block_lt_of_cell? w _ hx119_0)).trans hx119_0
        replace p119:=eq_true p119
        replace q119:=eq_true q119
        have p120:0 ≤ (x5_1:Int):=of_decide_eq_true (by first|(with_reducible assumption)|assumption)
        have q120:x5_1 < (l1.length:Int):=of_decide_eq_true (by first|(with_reducible assumption)|assumption)
        obtain⟨ad120,e120,hx120_0⟩:=Kd.at_int HR1.out x5_1 p120 q120
        cases e120
        replace hx120_0:=(HB.out.cell (World.block_lt_of_cell? w _ hx120_0)).trans hx120_0
        replace p120:=eq_true p120
        replace q120:=eq_true q120
        go_wp2
        repeat (go_quiet (fail);try go_wp2)
        go_roundg k1
        case measure=>have:=HK1.out;omega
        case rel=>exact⟨(wrap64 (x5_1 + 1)),(by first|rfl|(simp;done)|(simp [*];done)),H',⟨by have:=HK1.out;omega⟩,⟨kB HB.out⟩⟩
       ·rw [if_neg c8] at H
        have c8b0:((rd l0 x5_1) == (rd l1 x5_1)) = false:=beq_eq_false_iff_ne.mpr c8
        have c8b1:((rd l0 x5_1) != (rd l1 x5_1)) = true:=bne_iff_ne.mpr c8
        obtain rfl:=Option.some.inj H
        have p119:0 ≤ (x5_1:Int):=of_decide_eq_true (by first|(with_reducible assumption)|assumption)
        have q119:x5_1 < (l0.length:Int):=of_decide_eq_true (by first|(with_reducible assumption)|assumption)
        obtain⟨ad119,e119,hx119_0⟩:=Kd.at_int HR0.out x5_1 p119 q119
        cases e119
        replace hx119_0:=(HB.out.cell (World.block_lt_of_cell? w _ hx119_0)).trans hx119_0
        replace p119:=eq_true p119
        replace q119:=eq_true q119
        have p120:0 ≤ (x5_1:Int):=of_decide_eq_true (by first|(with_reducible assumption)|assumption)
        have q120:x5_1 < (l1.length:Int):=of_decide_eq_true (by first|(with_reducible assumption)|assumption)
        obtain⟨ad120,e120,hx120_0⟩:=Kd.at_int HR1.out x5_1 p120 q120
        cases e120
        replace hx120_0:=(HB.out.cell (World.block_lt_of_cell? w _ hx120_0)).trans hx120_0
        replace p120:=eq_true p120
        replace q120:=eq_true q120
        go_wp2
        repeat (go_quiet (fail);try go_wp2)
        go_ret
        exact⟨by first|rfl|(simp [errW_none,errW_some] <;> rfl)|(simp only [← hji3];first|rfl|(simp [errW_none,errW_some] <;> rfl))|(simp [*,errW_none,errW_some] <;> rfl),kB HB.out⟩
      ·rw [if_neg c7] at H
       exact absurd H (by simp)
     ·rw [if_neg c6] at H
      exact absurd H (by simp)
    ·rw [if_neg c5] at H
     exact absurd H (by simp)
   ·rw [if_neg c4] at H
    have c4b0:decide (x5_1 < (ji3)) = false:=decide_eq_false c4
    clear c4
    obtain rfl:=Option.some.inj H
    go_wp2
    repeat (go_quiet (fail);try go_wp2)
    go_ret
    exact⟨by first|rfl|(simp [errW_none,errW_some] <;> rfl)|(simp only [← hji3];first|rfl|(simp [errW_none,errW_some] <;> rfl))|(simp [*,errW_none,errW_some] <;> rfl),kB HB.out⟩

/-! ### impl_lcpRows: function 41 -/
def impl_lcpRows.l0 : Nat → List Int → Int → List Int → List Int → Option (List Int)
 | 0, _, _, _, _ => none
 | k + 1, x0, x5, x7, x10 => if x5 < (x7.length : Int) then (if 0 ≤ (wrap64 (x5 - 1)) then (if (wrap64 (x5 - 1)) < (x7.length : Int) then (if 0 ≤ (rd x7 (wrap64 (x5 - 1))) then (if (rd x7 (wrap64 (x5 - 1))) ≤ (x0.length : Int) then (if 0 ≤ x5 then (if 0 ≤ (rd x7 x5) then (if (rd x7 x5) ≤ (x0.length : Int) then ((impl_common.f k (x0.drop ((rd x7 (wrap64 (x5 - 1))) : Int).toNat) (x0.drop ((rd x7 x5) : Int).toNat)).bind fun t131 => (if x5 < (x10.length : Int) then (impl_lcpRows.l0 k x0 (wrap64 (x5 + 1)) x7 (x10.set (x5 : Int).toNat t131)) else (none))) else (none)) else (none)) else (none)) else (none)) else (none)) else (none)) else (none)) else (some x10)
def impl_lcpRows.f (k : Nat) (l0 : List Int) : Option (List Int) := (impl_suffixRows.f k l0).bind fun t121 => (if 0 ≤ (t121.length : Int) then (if ((t121.length : Int) : Int).toNat ≤ 35184372088832 then (impl_lcpRows.l0 k l0 1 t121 (List.replicate ((t121.length : Int) : Int).toNat 0)) else (none)) else (none))
theorem impl_lcpRows.mono_l : ∀ k, (∀ y0 y1 y2 y3, LeO (impl_lcpRows.l0 k y0 y1 y2 y3) (impl_lcpRows.l0 (k + 1) y0 y1 y2 y3))
 | 0 => fun _ _ _ _ r h => by simp [impl_lcpRows.l0] at h
 | k + 1 => by
  have ih0 := impl_lcpRows.mono_l k
  ·intro y0 y1 y2 y3
   unfold impl_lcpRows.l0
   repeat' first|(with_reducible first|exact ih0 _ _ _ _|exact impl_common.mono _ _ _|exact impl_suffixRows.mono _ _|exact LeO.refl _|exact LeO.none _|refine LeO.ite ?_ ?_|refine LeO.bind ?_ (fun _ => ?_))|exact LeO.none _|refine LeO.ite ?_ ?_|refine LeO.bind ?_ (fun _ => ?_)
theorem impl_lcpRows.mono : ∀ a0 k, LeO (impl_lcpRows.f k a0) (impl_lcpRows.f (k + 1) a0) := by
 intro a0 k
 have ih0 := impl_lcpRows.mono_l k
 unfold impl_lcpRows.f
 repeat' first|(with_reducible first|exact ih0 _ _ _ _|exact impl_common.mono _ _ _|exact impl_suffixRows.mono _ _|exact LeO.refl _|exact LeO.none _|refine LeO.ite ?_ ?_|refine LeO.bind ?_ (fun _ => ?_))|exact LeO.none _|refine LeO.ite ?_ ?_|refine LeO.bind ?_ (fun _ => ?_)
def impl_lcpRows.T6 : Bool × List (List Nat × List Nat) := (true, [([], []), ([], []), ([], []), ([], []), ([], []), ([4], [4]), ([3, 5], [3, 5]), ([6], [6]), ([2, 7], [2, 7]), ([], []), ([], []), ([], []), ([10, 11], [10, 11]), ([12], [12]), ([9, 13], [9, 13]), ([8, 14], [8, 14]), ([0, 1, 0, 1, 2, 3, 4, 5, 6, 7, 8, 9, 10, 11, 12, 13, 14, 15], [0, 1]), ([16, 15, 15, 0, 1, 2, 3, 4, 5, 6, 7, 8, 9, 10, 11, 12, 13, 14, 15], [15, 16])])
def impl_lcpRows.B6 : List Nat := [0, 0, 0, 0, 0, 16, 56, 120, 252, 0, 0, 0, 3072, 7168, 15872, 32764, 65535, 131071]
theorem impl_lcpRows.tab6 : rtab .any (opsOf Try.f41 6) = impl_lcpRows.T6 := by kernel_rfl
theorem impl_lcpRows.bits6 : waitsOk impl_lcpRows.T6.2 impl_lcpRows.B6 = true := by kernel_rfl
abbrev impl_lcpRows.m0 : Array Bool := #[F,F,F,F,F,F,F,F,F,F,F,F,F,F,F,F,F,F]
abbrev impl_lcpRows.m1 : Array Bool := #[T,F,F,F,F,F,F,F,F,F,F,F,F,F,F,F,F,F]
abbrev impl_lcpRows.m2 : Array Bool := #[T,T,F,F,F,F,F,F,F,F,F,F,F,F,F,F,F,F]
abbrev impl_lcpRows.m3 : Array Bool := #[T,T,T,F,F,F,F,F,F,F,F,F,F,F,F,F,F,F]
abbrev impl_lcpRows.m4 : Array Bool := #[T,T,T,T,F,F,F,F,F,F,F,F,F,F,F,F,F,F]
abbrev impl_lcpRows.m5 : Array Bool := #[T,T,T,T,T,F,F,F,F,F,F,F,F,F,F,F,F,F]
abbrev impl_lcpRows.m6 : Array Bool := #[T,T,T,T,T,T,F,F,F,F,F,F,F,F,F,F,F,F]
abbrev impl_lcpRows.m7 : Array Bool := #[T,T,T,T,T,T,T,F,F,F,F,F,F,F,F,F,F,F]
abbrev impl_lcpRows.m8 : Array Bool := #[T,T,T,T,T,T,T,F,F,T,F,F,F,F,F,F,F,F]
abbrev impl_lcpRows.m9 : Array Bool := #[T,T,T,T,T,T,T,F,F,T,T,F,F,F,F,F,F,F]
abbrev impl_lcpRows.m10 : Array Bool := #[T,T,T,T,T,T,T,F,F,T,T,T,F,F,F,F,F,F]
abbrev impl_lcpRows.m11 : Array Bool := #[T,T,T,T,T,T,T,F,F,T,T,T,T,F,F,F,F,F]
abbrev impl_lcpRows.m12 : Array Bool := #[T,T,T,T,T,T,T,T,F,T,T,T,T,F,F,F,F,F]
abbrev impl_lcpRows.m13 : Array Bool := #[T,T,T,T,T,T,T,T,T,T,T,T,T,F,F,F,F,F]
abbrev impl_lcpRows.m14 : Array Bool := #[T,T,T,T,T,T,T,T,T,T,T,T,T,T,F,F,F,F]
abbrev impl_lcpRows.m15 : Array Bool := #[T,T,T,T,T,T,T,T,T,T,T,T,T,T,T,F,F,F]
abbrev impl_lcpRows.m16 : Array Bool := #[T,T,T,T,T,T,T,T,T,T,T,T,T,T,T,T,F,F]
abbrev impl_lcpRows.m17 : Array Bool := #[T,T,T,T,T,T,T,T,T,T,T,T,T,T,T,T,T,F]
abbrev impl_lcpRows.m18 : Array Bool := #[T,T,T,T,T,T,T,T,T,T,T,T,T,T,T,T,T,T]
set_option maxHeartbeats 8000000 in
set_option maxRecDepth 100000 in
theorem impl_lcpRows.calls (k : Nat) (A0 : Option Addr) (c0 : Nat) (l0 : List Int) (r : List Int) (w : World) (hr0 : Kd.C (Kd.int .u8) w A0 l0.length l0) (hc0 : l0.length ≤ c0) (h : impl_lcpRows.f k l0 = some r) :
  Calls Try.prog 41 #[.slice A0 l0.length c0] w fun e w' => ∃ v0_ : Value, e = .returned (v0_) ∧ Kd.R (Kd.int .i64) 3 w' w.heap.size (fun _ => True) v0_ r ∧ Below w.heap.size w w' := by
 have HR0:=mk0 hr0
 have HC0:=mk0 hc0
 clear hr0 hc0
 have HB:=mk0 (Below.refl w.heap.size w)
 have H:((impl_suffixRows.f k l0).bind fun t121=>(if 0 ≤ (t121.length:Int) then (if ((t121.length:Int):Int).toNat ≤ 35184372088832 then (impl_lcpRows.l0 k l0 1 t121 (List.replicate ((t121.length:Int):Int).toNat 0)) else (none)) else (none))) = some r:=h
 clear h
 replace H:=Option.bind_eq_some_iff.mp H
 obtain⟨t121,A20,H⟩:=H
 replace H:(if 0 ≤ (t121.length:Int) then (if ((t121.length:Int):Int).toNat ≤ 35184372088832 then (impl_lcpRows.l0 k l0 1 t121 (List.replicate ((t121.length:Int):Int).toNat 0)) else (none)) else (none)) = some r:=H
 have A2:=mk0 A20
 clear A20
 by_cases c3:0 ≤ (t121.length:Int)
 rotate_left
 ·rw [if_neg c3] at H
  exact absurd H (by simp)

 rw [if_pos c3] at H
 have c3b0:=eq_true c3
 have c3b1:decide (0 ≤ (t121.length:Int)) = true:=decide_eq_true c3
 clear c3
 by_cases c4:((t121.length:Int):Int).toNat ≤ 35184372088832
 rotate_left
 ·rw [if_neg c4] at H
  exact absurd H (by simp)
 rw [if_pos c4] at H
 have c4b0:=eq_true c4
 have c4b1:decide (((t121.length:Int):Int).toNat ≤ 35184372088832) = true:=decide_eq_true c4
 clear c4
 obtain⟨y124,hy124⟩:∃ y_:List Int,y_ = (List.replicate ((t121.length:Int):Int).toNat 0):=⟨_,rfl⟩
 replace H:(impl_lcpRows.l0 k l0 1 t121 y124) = some r:=by first|(rw [hy124];with_reducible exact H)|(have H2_:=(Option.bind_some _ _).symm.trans H;rw [hy124];with_reducible exact H2_)|(have H2_:=(Option.bind_some _ _).symm.trans H;with_reducible exact H2_)|with_reducible exact H|(rw [hy124];exact H)|exact H
 have Ny124:=mk0 hy124
 clear hy124
 have H':=mk0 H
 clear H
 go_enter Try.func41,Try.ntmps41
 go_wp2_with (first|((with_reducible refine gate_callee (f:=44) rfl ?_);refine goesL_ (some 7) rfl rfl Try.func44 (by kernel_rfl) rfl #[.slice A0 l0.length c0] rfl (by (try simp only [mA,mC,mN]);first|done|rfl|(simp only [List.length_drop,List.length_take];done)|(simp only [List.length_drop,List.length_take];rfl)) ?_;(with_reducible refine (impl_suffixRows.calls k _ _ l0 t121 _ ?side1 ?side2 A2.out).mono ?_);(case side1=>repeat (first|exact HR0.out|(with_reducible first|apply aC|apply nC|apply dC)));(case side2=>exact HC0.out);rintro e w5 ⟨v122,rfl,ho0,hb⟩;refine⟨_,rfl,?_⟩;have HO123:=mk0 (Kd.R_lower ho0 (kZ HB.out));replace HB:=mk0 (kS HB.out hb);(try clear hb);(try clear ho0);obtain⟨Ao6,co6,eo6⟩:=Kd.R_slice HO123.out;subst eo6)|((with_reducible refine gate_dst (N:=10) rfl ?_);refine Kd.R_make (Kd.int .i64) _ 3 rfl (N:=10) rfl 48 _ _ rfl (t121.length:Int) rfl rfl Try.underlying48 (.int .i64 0) 8 info3 rfl (by decide) (by omega) 0 (ok:=fun _=>True) (okp:=fun _=>True) rfl (fun _ hk=>hk) trivial (of_decide_eq_true (by first|(with_reducible assumption)|assumption)) (Nat.le_trans (Nat.mul_le_mul_right _ (of_decide_eq_true (by first|(with_reducible assumption)|assumption):(t121.length:Int).toNat ≤ 35184372088832)) (by omega)) (Below.refl _ _) (Nat.le_refl _) ?_;intro v125 w7 ho8 hb hg_ hnew_;clear hg_ hnew_;(first|rw [← Ny124.out] at ho8|(simp only [Int.reduceToNat] at ho8;rw [← Ny124.out] at ho8));have HO126:=mk0 (Kd.R_lower (Kd.R_new' ho8 (Kd.R_lt (rR HO123.out))) (kZ HB.out));replace HO123:=mk0 (Kd.R_elder' (rR HO123.out) (Kd.R_base ho8) hb);replace HB:=mk0 (kS HB.out hb);clear hb ho8))
 go_loopg [5] k (fun kq v5 w'=>∃ (x5_1:Int) (x10_1:List Int),v5 = .int .i64 x5_1 ∧ Aside0 (impl_lcpRows.l0 kq l0 x5_1 t121 x10_1 = some r) ∧ Aside0 (kq ≤ k) ∧ Aside0 (Kd.R (Kd.int .i64) 3 w' w.heap.size (fun k_=>some k_ ≠ (v125:Value).ownBlock) (.slice Ao6 t121.length co6) t121) ∧ Aside0 (Kd.R (Kd.int .i64) 3 w' w.heap.size (fun k_=>some k_ ≠ ((.slice Ao6 t121.length co6):Value).ownBlock) v125 x10_1) ∧ Aside0 (Below w.heap.size w w'))
 case atStart=>exact⟨(1),(y124),(by first|rfl|(simp;done)|(simp [*];done)),H',⟨Nat.le_refl _⟩,⟨rR (Kd.R_mono HO123.out (fun _ hk=>hk.2))⟩,⟨rR (Kd.R_mono HO126.out (fun _ hk=>hk.2))⟩,⟨kB HB.out⟩⟩
 case round =>
  clear H'
  try clear p2
  try clear c3
  try clear c3b0
  try clear c3b1
  try clear c4
  try clear c4b0
  try clear c4b1
  obtain⟨x5_1,x10_1,rfl,HA,HK1,HO_7,HO_10,HB⟩:=hrel
  cases gk with
  | zero=>exact absurd HA.out (by simp [impl_lcpRows.l0])
  | succ k1 =>
   have H:=HA.out
   clear HA
   simp only [impl_lcpRows.l0] at H
   by_cases c9:x5_1 < (t121.length:Int)
   rotate_left
   ·rw [if_neg c9] at H
    have c9b0:decide (x5_1 < (t121.length:Int)) = false:=decide_eq_false c9
    clear c9
    obtain rfl:=Option.some.inj H
    go_wp2
    go_ret
    exact⟨_,by first|rfl|(simp [errW_none,errW_some] <;> rfl)|(simp [*,errW_none,errW_some] <;> rfl),rR (Kd.R_mono HO_10.out (fun _ hk=>trivial)),kB HB.out⟩
   rw [if_pos c9] at H
   have c9b0:decide (x5_1 < (t121.length:Int)) = true:=decide_eq_true c9
   clear c9
   obtain⟨ji10,hji10⟩:∃ j_:Int,(wrap64 (x5_1 - 1)) = j_:=⟨_,rfl⟩
   replace H:(if 0 ≤ (ji10) then (if (ji10) < (t121.length:Int) then (if 0 ≤ (rd t121 (ji10)) then (if (rd t121 (ji10)) ≤ (l0.length:Int) then (if 0 ≤ x5_1 then (if 0 ≤ (rd t121 x5_1) then (if (rd t121 x5_1) ≤ (l0.length:Int) then ((impl_common.f k1 (l0.drop ((rd t121 (ji10)):Int).toNat) (l0.drop ((rd t121 x5_1):Int).toNat)).bind fun t131=>(if x5_1 < (x10_1.length:Int) then (impl_lcpRows.l0 k1 l0 (wrap64 (x5_1 + 1)) t121 (x10_1.set (x5_1:Int).toNat t131)) else (none))) else (none)) else (none)) else (none)) else (none)) else (none)) else (none)) else (none)) = some r:=by first|(rw [hji10] at H;exact H)|(simp only [hji10] at H ⊢;exact H)
   have hji10w:(IntKind.i64.wrap (x5_1 - 1)) = ji10:=(i64_w _).trans hji10
   by_cases c11:0 ≤ (ji10)
   rotate_left
   ·rw [if_neg c11] at H
    exact absurd H (by simp)
   rw [if_pos c11] at H
   have c11b0:decide (0 ≤ (ji10)) = true:=decide_eq_true c11
   clear c11
   by_cases c12:(ji10) < (t121.length:Int)
   rotate_left
   ·rw [if_neg c12] at H
    exact absurd H (by simp)
   rw [if_pos c12] at H
   have c12b0:decide ((ji10) < (t121.length:Int)) = true:=decide_eq_true c12
   clear c12
   by_cases c13:0 ≤ (rd t121 (ji10))
   rotate_left
   ·rw [if_neg c13] at H
    exact absurd H (by simp)
   rw [if_pos c13] at H
   have c13b0:=eq_true c13
   have c13b1:decide (0 ≤ (rd t121 (ji10))) = true:=decide_eq_true c13
   clear c13
   by_cases c14:(rd t121 (ji10)) ≤ (l0.length:Int)
   rotate_left
   ·rw [if_neg c14] at H
    exact absurd H (by simp)
   rw [if_pos c14] at H
   have c14b0:=eq_true c14
   have c14b1:decide ((rd t121 (ji10)) ≤ (l0.length:Int)) = true:=decide_eq_true c14
   clear c14
   by_cases c15:0 ≤ x5_1
   rotate_left
   ·rw [if_neg c15] at H
    exact absurd H (by simp)
   rw [if_pos c15] at H
   have c15b0:decide (0 ≤ x5_1) = true:=decide_eq_true c15
   clear c15
   by_cases c16:0 ≤ (rd t121 x5_1)
   rotate_left
   ·rw [if_neg c16] at H
    exact absurd H (by simp)
   rw [if_pos c16] at H
   have c16b0:=eq_true c16
   have c16b1:decide (0 ≤ (rd t121 x5_1)) = true:=decide_eq_true c16
   clear c16
   by_cases c17:(rd t121 x5_1) ≤ (l0.length:Int)
   rotate_left
   ·rw [if_neg c17] at H
    exact absurd H (by simp)
   rw [if_pos c17] at H
   have c17b0:=eq_true c17
   have c17b1:decide ((rd t121 x5_1) ≤ (l0.length:Int)) = true:=decide_eq_true c17
   clear c17
   replace H:=Option.bind_eq_some_iff.mp H
   obtain⟨t131,A180,H⟩:=H
   replace H:(if x5_1 < (x10_1.length:Int) then (impl_lcpRows.l0 k1 l0 (wrap64 (x5_1 + 1)) t121 (x10_1.set (x5_1:Int).toNat t131)) else (none)) = some r:=H
   have A18:=mk0 A180
   clear A180
   by_cases c19:x5_1 < (x10_1.length:Int)
   rotate_left
   ·rw [if_neg c19] at H
    exact absurd H (by simp)
   rw [if_pos c19] at H
   have c19b0:decide (x5_1 < (x10_1.length:Int)) = true:=decide_eq_true c19
   clear c19
   obtain⟨y132,hy132⟩:∃ y_:List Int,y_ = (x10_1.set (x5_1:Int).toNat t131):=⟨_,rfl⟩
   replace H:(impl_lcpRows.l0 k1 l0 (wrap64 (x5_1 + 1)) t121 y132) = some r:=by first|(rw [hy132];with_reducible exact H)|(have H2_:=(Option.bind_some _ _).symm.trans H;rw [hy132];with_reducible exact H2_)|(have H2_:=(Option.bind_some _ _).symm.trans H;with_reducible exact H2_)|with_reducible exact H|(rw [hy132];exact H)|exact H
   have Ny132:=mk0 hy132
   clear hy132
   have H':=mk0 H
   clear H
   try go_wp2
   replace HO_7:=mk0 (dR HO_7.out)
   replace HO_10:=mk0 (dR HO_10.out)
   replace HB:=mk0 (dZ HB.out)
   have p127:0 ≤ ((ji10):Int):=of_decide_eq_true (by first|(with_reducible assumption)|assumption)
   have q127:(ji10) < (t121.length:Int):=of_decide_eq_true (by first|(with_reducible assumption)|assumption)
   obtain⟨ad127,e127,hx127_0⟩:=Kd.at_int (Kd.R_reads' HO_7.out).2.2 (ji10) p127 q127
   cases e127
   replace p127:=eq_true p127
   replace q127:=eq_true q127
   obtain⟨i022,hi022,_,hsz22,_⟩:=info_parts info5
   obtain⟨A22,hcut22,hA22,hC22⟩:=print_drop_of (P:=Try.prog) (Value.int .u8) 0 22 5 .i64 Try.underlying22 hi022 hsz22 A0 c0 l0 (rd t121 (ji10)) (of_decide_eq_true (by first|(with_reducible assumption)|assumption)) (of_decide_eq_true (by first|(with_reducible assumption)|assumption)) HC0.out
   have HR128:=mk0 (Kd.C_of_reads (h1:=fun _=>rfl) (hA22 _ (Kd.reads_of_C HR0.out)))
   have HC128:=mk0 hC22
   clear hA22 hC22 hi022 hsz22
   have p129:0 ≤ (x5_1:Int):=of_decide_eq_true (by first|(with_reducible assumption)|assumption)
   have q129:x5_1 < (t121.length:Int):=of_decide_eq_true (by first|(with_reducible assumption)|assumption)
   obtain⟨ad129,e129,hx129_0⟩:=Kd.at_int (Kd.R_reads' HO_7.out).2.2 x5_1 p129 q129
   obtain rfl:ad127 = ad129:=(by injection e129)
   replace p129:=eq_true p129
   replace q129:=eq_true q129
   obtain⟨i023,hi023,_,hsz23,_⟩:=info_parts info5
   obtain⟨A23,hcut23,hA23,hC23⟩:=print_drop_of (P:=Try.prog) (Value.int .u8) 0 22 5 .i64 Try.underlying22 hi023 hsz23 A0 c0 l0 (rd t121 x5_1) (of_decide_eq_true (by first|(with_reducible assumption)|assumption)) (of_decide_eq_true (by first|(with_reducible assumption)|assumption)) HC0.out
   have HR130:=mk0 (Kd.C_of_reads (h1:=fun _=>rfl) (hA23 _ (Kd.reads_of_C HR0.out)))
   have HC130:=mk0 hC23
   clear hA23 hC23 hi023 hsz23
   refine start_ (n:=18) (S:=fun w'=>w'.cell? (ad127.add ((ji10)).toNat) = some (.int .i64 (rd t121 (ji10))) ∧ w'.cell? (ad127.add (x5_1).toNat) = some (.int .i64 (rd t121 x5_1))) (ds:=[17]) impl_lcpRows.m0 (by kernel_rfl) rfl rfl ⟨hx127_0,hx129_0⟩ (fun hHeld=>?_);refine with_tabW impl_lcpRows.tab6 impl_lcpRows.bits6 (fun HT_ HW_=>?_)
   generalize wr.drew = w21 at HO_7 HO_10 HB HR128 HR130 hx127_0 hx129_0 hHeld ⊢
   refine pure_ (i:=0) (N:=some 17) (v:=?_) (a':=?_) impl_lcpRows.m1 rfl rfl (any_of HT_.out (by kernel_rfl)) (fun _ _ _ h=>h) (Or.inl ⟨by rfl,?_⟩) ?_ ?_
   rotate_left
   ·intro w'
    go_simp
    with_reducible rfl
   rotate_left
   ·simp only [Act.put,sA,sO,sS,i64_w,i32_w]
    rfl
   refine pure_ (i:=1) (N:=some 18) (v:=?_) (a':=?_) impl_lcpRows.m2 rfl rfl (any_of HT_.out (by kernel_rfl)) (fun _ _ _ h=>h) (Or.inl ⟨by rfl,?_⟩) ?_ ?_
   rotate_left
   ·intro w'
    go_simp
    with_reducible rfl
   rotate_left
   ·simp only [Act.put,sA,sO,sS,i64_w,i32_w]
    rfl
   refine pure_ (i:=2) (N:=some 19) (v:=?_) (a':=?_) impl_lcpRows.m3 rfl rfl (any_of HT_.out (by kernel_rfl)) (fun _ _ _ h=>h) (Or.inl ⟨by rfl,?_⟩) ?_ ?_
   rotate_left
   ·intro w'
    go_simp
    with_reducible rfl
   rotate_left
   ·simp only [Act.put,sA,sO,sS,i64_w,i32_w]
    rfl
   refine pure_ (i:=3) (N:=some 20) (v:=?_) (a':=?_) impl_lcpRows.m4 rfl rfl (any_of HT_.out (by kernel_rfl)) (fun _ _ _ h=>h) (Or.inl ⟨by rfl,?_⟩) ?_ ?_
   rotate_left
   ·intro w'
    go_simp
    with_reducible rfl
   rotate_left
   ·simp only [Act.put,sA,sO,sS,i64_w,i32_w]
    rfl
   refine pure_ (i:=4) (N:=some 21) (v:=?_) (a':=?_) impl_lcpRows.m5 rfl rfl (any_of HT_.out (by kernel_rfl)) (fun _ _ _ h=>h) (Or.inl ⟨by rfl,?_⟩) ?_ ?_
   rotate_left
   ·intro w'
    go_simp
    with_reducible rfl
   rotate_left
   ·simp only [Act.put,sA,sO,sS,i64_w,i32_w]
    rfl
   refine pure_ (i:=5) (N:=some 22) (v:=?_) (a':=?_) impl_lcpRows.m6 rfl rfl (any_of HT_.out (by kernel_rfl)) (fun _ _ _ h=>h) (Or.inl ⟨by rfl,?_⟩) ?_ ?_
   rotate_left
   ·intro w'
    go_simp
    with_reducible rfl
   rotate_left
   ·simp only [Act.put,sA,sO,sS,i64_w,i32_w]
    rfl
   refine pure_ (i:=6) (N:=some 23) (v:=?_) (a':=?_) impl_lcpRows.m7 rfl rfl (any_of HT_.out (by kernel_rfl)) (fun _ _ _ h=>h) (Or.inl ⟨by rfl,?_⟩) ?_ ?_
   rotate_left
   ·intro w'
    go_simp
    with_reducible rfl
   rotate_left
   ·simp only [Act.put,sA,sO,sS,i64_w,i32_w]
    rfl
   refine pure_ (i:=9) (N:=some 26) (v:=?_) (a':=?_) impl_lcpRows.m8 rfl rfl (any_of HT_.out (by kernel_rfl)) (fun _ _ _ h=>h) (Or.inl ⟨by rfl,?_⟩) ?_ ?_
   rotate_left
   ·intro w'
    go_simp
    with_reducible rfl
   rotate_left
   ·simp only [Act.put,sA,sO,sS,i64_w,i32_w]
    rfl
   refine pure_ (i:=10) (N:=some 27) (v:=?_) (a':=?_) impl_lcpRows.m9 rfl rfl (any_of HT_.out (by kernel_rfl)) (fun _ _ _ h=>h) (Or.inl ⟨by rfl,?_⟩) ?_ ?_
   rotate_left
   ·intro w'
    go_simp
    with_reducible rfl
   rotate_left
   ·simp only [Act.put,sA,sO,sS,i64_w,i32_w]
    rfl
   refine pure_ (i:=11) (N:=some 28) (v:=?_) (a':=?_) impl_lcpRows.m10 rfl rfl (any_of HT_.out (by kernel_rfl)) (fun _ _ _ h=>h) (Or.inl ⟨by rfl,?_⟩) ?_ ?_
   rotate_left
   ·intro w'
    go_simp
    with_reducible rfl
   rotate_left
   ·simp only [Act.put,sA,sO,sS,i64_w,i32_w]
    rfl
   refine pure_ (i:=12) (N:=some 29) (v:=?_) (a':=?_) impl_lcpRows.m11 rfl rfl (any_of HT_.out (by kernel_rfl)) (fun _ _ _ h=>h) (Or.inl ⟨by rfl,?_⟩) ?_ ?_
   rotate_left
   ·intro w'
    go_simp
    with_reducible rfl
   rotate_left
   ·simp only [Act.put,sA,sO,sS,i64_w,i32_w]
    rfl
   refine take_ (i:=7) (N:=some 24) (v:=?_) (a':=?_) impl_lcpRows.m12 rfl rfl (take_ofW HT_.out HW_.out (by kernel_rfl)) (fun _ _ _ h=>h) (Or.inl ⟨by rfl,?_⟩) hHeld ?_ ?_
   rotate_left
   ·rintro w' ⟨s0,s1⟩
    go_simp
    with_reducible rfl
   rotate_left
   ·simp only [Act.put,sA,sO,sS,i64_w,i32_w]
    rfl
   refine pure_ (i:=8) (N:=some 25) (v:=?_) (a':=?_) impl_lcpRows.m13 rfl rfl (any_of HT_.out (by kernel_rfl)) (fun _ _ _ h=>h) (Or.inl ⟨by rfl,?_⟩) ?_ ?_
   rotate_left
   ·intro w'
    go_simp
    with_reducible rfl
   rotate_left
   ·simp only [Act.put,sA,sO,sS,i64_w,i32_w]
    rfl
   refine take_ (i:=13) (N:=some 30) (v:=?_) (a':=?_) impl_lcpRows.m14 rfl rfl (take_ofW HT_.out HW_.out (by kernel_rfl)) (fun _ _ _ h=>h) (Or.inl ⟨by rfl,?_⟩) hHeld ?_ ?_
   rotate_left
   ·rintro w' ⟨s0,s1⟩
    go_simp
    with_reducible rfl
   rotate_left
   ·simp only [Act.put,sA,sO,sS,i64_w,i32_w]
    rfl
   refine pure_ (i:=14) (N:=some 31) (v:=?_) (a':=?_) impl_lcpRows.m15 rfl rfl (any_of HT_.out (by kernel_rfl)) (fun _ _ _ h=>h) (Or.inl ⟨by rfl,?_⟩) ?_ ?_
   rotate_left
   ·intro w'
    go_simp
    with_reducible rfl
   rotate_left
   ·simp only [Act.put,sA,sO,sS,i64_w,i32_w]
    rfl
   refine one_ (i:=15) (N:=some 32) impl_lcpRows.m16 rfl rfl (one_of HT_.out (by kernel_rfl)) (by decide) (fun K hK=>?_)
   refine goes_ Try.func63 (by kernel_rfl) rfl #[.slice A22 (l0.drop ((rd t121 (ji10)):Int).toNat).length (c0 - (rd t121 (ji10)).toNat),.slice A23 (l0.drop ((rd t121 x5_1):Int).toNat).length (c0 - (rd t121 x5_1).toNat)] (by rfl) rfl rfl (by (try simp only [mA,mC,mN]);first|done|(rw [show (l0.drop ((rd t121 (ji10)):Int).toNat).length = (l0.length - (rd t121 (ji10)).toNat) from List.length_drop] <;> rfl)|(rw [show (l0.drop ((rd t121 x5_1):Int).toNat).length = (l0.length - (rd t121 x5_1).toNat) from List.length_drop] <;> rfl)|(simp only [hji10];rfl)|rfl|(simp only [List.length_drop,List.length_take];done)|(simp only [List.length_drop,List.length_take];rfl)) ?_
   with_reducible refine (impl_common.calls k1 _ _ (l0.drop ((rd t121 (ji10)):Int).toNat) _ _ (l0.drop ((rd t121 x5_1):Int).toNat) t131 _ ?side1 ?side2 ?side3 ?side4 A18.out).mono ?_
   (case side1=>exact kC (Kd.C_below HR128.out HB.out))
   (case side2=>exact HC128.out)
   (case side3=>exact kC (Kd.C_below HR130.out HB.out))
   (case side4=>exact HC130.out)
   rintro e w24 ⟨rfl,hb⟩
   have HS0_:=(hb.cell (World.block_lt_of_cell? _ _ (hHeld.1))).trans (hHeld.1)
   have HS1_:=(hb.cell (World.block_lt_of_cell? _ _ (hHeld.2))).trans (hHeld.2)
   refine⟨_,rfl,?_⟩
   replace HO_7:=mk0 (bR HO_7.out hb)
   replace HO_10:=mk0 (bR HO_10.out hb)
   replace HB:=mk0 (kS HB.out hb)
   (try clear hb)
   have p20:0 ≤ (x5_1:Int):=of_decide_eq_true (by first|(with_reducible assumption)|assumption)
   have q20:(x5_1:Int) < ((x10_1.length:Int):Int):=of_decide_eq_true (by first|(with_reducible assumption)|assumption)
   obtain⟨go20,co20,eo20,gb20,gl20,cl20,HG20⟩:=Kd.R_form HO_10.out (by omega)
   (first|cases eo20|(injection eo20 with ea_ en_ ec_;(first|subst ea_|(injection ea_ with ea_;subst ea_));subst ec_;clear en_))
   have GB20:=mk0 gb20
   have GG20:=mk0 HG20
   clear gb20 gl20 HG20
   obtain⟨hx20_0,hf20_0⟩:=Kd.R_celln 0 HO_10.out (x5_1:Int) p20 q20
   replace p20:=eq_true p20
   replace q20:=eq_true q20
   have HP25:=Kd.R_putn HO_10.out (x5_1:Int) t131
   rw [← Ny132.out] at HP25
   have HQ25:=mk0 HP25
   clear HP25
   refine hK.out _ _ ⟨HS0_,HS1_⟩ (fun hHeld=>?_)
   clear hK K
   refine norm_ (a':=?_) ?_ ?_
   rotate_left
   ·show Act.put _ (some 32) _ = _
    simp only [Act.put,sA,sO,sS,i64_w,i32_w]
    rfl
   refine pure_ (i:=16) (N:=some 33) (v:=?_) (a':=?_) impl_lcpRows.m17 rfl rfl (any_of HT_.out (by kernel_rfl)) (fun _ _ _ h=>h) (Or.inl ⟨by rfl,?_⟩) ?_ ?_
   rotate_left
   ·intro w'
    go_simp
    with_reducible rfl
   rotate_left
   ·simp only [Act.put,sA,sO,sS,i64_w,i32_w]
    rfl
   refine last_ (i:=17) (N:=none) impl_lcpRows.m18 rfl rfl (one_of HT_.out (by kernel_rfl)) (by decide) (fun K hK=>?_)
   refine skip_ (w1:=?_) (by rfl) rfl ?_ ?_
   rotate_left
   ·go_simp
    rfl
   refine hK.out _ _ ?_
   clear hK K
   refine done_ (done_of HT_.out (by kernel_rfl)) ?_
   try go_wp2
   go_roundg k1
   case measure=>have:=HK1.out;omega
   case rel=>exact⟨(wrap64 (x5_1 + 1)),(y132),(by first|rfl|(simp;done)|(simp [*];done)),H',⟨by have:=HK1.out;omega⟩,⟨by (with_reducible repeat (first|apply aR|apply nR|apply dR));exact Kd.R_mono (Kd.R_far (p:=⟨go20,(x5_1:Int).toNat,none⟩) (Kd.R_mono HO_7.out (fun k_ hk=>(⟨hk,fun e_=>hk (by rw [e_];rfl)⟩:_ ∧ k_ ≠ go20))) (fun _ hk=>hk.2) (.int .i64 t131)) (fun _ hk=>hk.1)⟩,⟨rR HQ25.out⟩,⟨kB HB.out⟩⟩
/-! ### slices_Max_int_int: function 50 -/
def slices_Max_int_int.l0 : Nat → List Int → Int → Int → Option (Int)
 | 0, _, _, _ => none
 | k + 1, x0, x3, x4 => if x4 < (x0.length : Int) then (if 0 ≤ x4 then (slices_Max_int_int.l0 k x0 (mx x3 (rd x0 x4)) (wrap64 (x4 + 1))) else (none)) else (some x3)
def slices_Max_int_int.f (k : Nat) (l0 : List Int) : Option (Int) := if (l0.length : Int) < 1 then (none) else (if 0 < (l0.length : Int) then (slices_Max_int_int.l0 k l0 (rd l0 0) 1) else (none))
theorem slices_Max_int_int.mono_l : ∀ k, (∀ y0 y1 y2, LeO (slices_Max_int_int.l0 k y0 y1 y2) (slices_Max_int_int.l0 (k + 1) y0 y1 y2))
 | 0 => fun _ _ _ r h => by simp [slices_Max_int_int.l0] at h
 | k + 1 => by
  have ih0 := slices_Max_int_int.mono_l k
  ·intro y0 y1 y2
   unfold slices_Max_int_int.l0
   repeat' first|(with_reducible first|exact ih0 _ _ _|exact LeO.refl _|exact LeO.none _|refine LeO.ite ?_ ?_|refine LeO.bind ?_ (fun _ => ?_))|exact LeO.none _|refine LeO.ite ?_ ?_|refine LeO.bind ?_ (fun _ => ?_)
theorem slices_Max_int_int.mono : ∀ a0 k, LeO (slices_Max_int_int.f k a0) (slices_Max_int_int.f (k + 1) a0) := by
 intro a0 k
 have ih0 := slices_Max_int_int.mono_l k
 unfold slices_Max_int_int.f
 repeat' first|(with_reducible first|exact ih0 _ _ _|exact LeO.refl _|exact LeO.none _|refine LeO.ite ?_ ?_|refine LeO.bind ?_ (fun _ => ?_))|exact LeO.none _|refine LeO.ite ?_ ?_|refine LeO.bind ?_ (fun _ => ?_)
set_option maxHeartbeats 8000000 in
set_option maxRecDepth 100000 in
theorem slices_Max_int_int.calls (k : Nat) (A0 : Option Addr) (c0 : Nat) (l0 : List Int) (r : Int) (w : World) (hr0 : Kd.C (Kd.int .i64) w A0 l0.length l0) (hc0 : l0.length ≤ c0) (h : slices_Max_int_int.f k l0 = some r) :
  Calls Try.prog 50 #[.slice A0 l0.length c0] w fun e w' => e = .returned (.int .i64 r) ∧ Below w.heap.size w w' := by
 have HR0:=mk0 hr0
 have HC0:=mk0 hc0
 clear hr0 hc0
 have HB:=mk0 (Below.refl w.heap.size w)
 have H:(if (l0.length:Int) < 1 then (none) else (if 0 < (l0.length:Int) then (slices_Max_int_int.l0 k l0 (rd l0 0) 1) else (none))) = some r:=h
 clear h
 by_cases c2:(l0.length:Int) < 1
 ·rw [if_pos c2] at H
  exact absurd H (by simp)
 ·rw [if_neg c2] at H
  have c2b0:decide ((l0.length:Int) < 1) = false:=decide_eq_false c2
  have c2b1:decide (l0.length < 1) = false:=decide_eq_false (by omega)
  clear c2
  by_cases c3:0 < (l0.length:Int)
  ·rw [if_pos c3] at H
   have c3b0:decide (0 < (l0.length:Int)) = true:=decide_eq_true c3
   have c3b1:decide (0 < l0.length) = true:=decide_eq_true (by omega)
   clear c3
   have H':=mk0 H
   clear H
   have p133:0 ≤ (0:Int):=(by omega)
   have q133:0 < (l0.length:Int):=of_decide_eq_true (by first|(with_reducible assumption)|assumption)
   obtain⟨ad133,e133,hx133_0⟩:=Kd.at_int HR0.out 0 p133 q133
   cases e133
   have qi133:(0 < l0.length) = True:=eq_true (by omega)
   (try rw [show ((0:Int)).toNat = 0 from rfl] at hx133_0)
   (try rw [Addr.add_zero'] at hx133_0)
   replace p133:=eq_true p133
   replace q133:=eq_true q133
   go_enter Try.func50,Try.ntmps50
   go_wp2
   go_loopg [3,4] k (fun kq v3 v4 w'=>∃ (x3_1:Int) (x4_1:Int),v3 = .int .i64 x3_1 ∧ v4 = .int .i64 x4_1 ∧ Aside0 (slices_Max_int_int.l0 kq l0 x3_1 x4_1 = some r) ∧ Aside0 (kq ≤ k) ∧ Aside0 (Below w.heap.size w w'))
   case atStart=>exact⟨(rd l0 0),(1),(by first|rfl|(simp;done)|(simp [*];done)),(by first|rfl|(simp;done)|(simp [*];done)),H',⟨Nat.le_refl _⟩,⟨kB HB.out⟩⟩
   case round =>
    clear H'
    try clear p1
    try clear q1
    try clear hx1
    try clear qi1
    try clear c2
    try clear c2b0
    try clear c2b1
    try clear p2
    try clear c3
    try clear c3b0
    try clear c3b1
    try clear hx133_0
    try clear p133
    try clear q133
    obtain⟨x3_1,x4_1,rfl,rfl,HA,HK1,HB⟩:=hrel
    cases gk with
    | zero=>exact absurd HA.out (by simp [slices_Max_int_int.l0])
    | succ k1 =>
     have H:=HA.out
     clear HA
     simp only [slices_Max_int_int.l0] at H
     by_cases c4:x4_1 < (l0.length:Int)
     ·rw [if_pos c4] at H
      have c4b0:decide (x4_1 < (l0.length:Int)) = true:=decide_eq_true c4
      clear c4
      by_cases c5:0 ≤ x4_1
      ·rw [if_pos c5] at H
       have c5b0:decide (0 ≤ x4_1) = true:=decide_eq_true c5
       clear c5
       obtain⟨ji6,hji6⟩:∃ j_:Int,(mx x3_1 (rd l0 x4_1)) = j_:=⟨_,rfl⟩
       replace H:(slices_Max_int_int.l0 k1 l0 ji6 (wrap64 (x4_1 + 1))) = some r:=by first|(rw [hji6] at H;exact H)|(simp only [hji6] at H ⊢;exact H)
       have hji6_:(if x3_1 < (rd l0 x4_1) then (rd l0 x4_1) else x3_1) = ji6:=hji6
       have H':=mk0 H
       clear H
       have p134:0 ≤ (x4_1:Int):=of_decide_eq_true (by first|(with_reducible assumption)|assumption)
       have q134:x4_1 < (l0.length:Int):=of_decide_eq_true (by first|(with_reducible assumption)|assumption)
       obtain⟨ad134,e134,hx134_0⟩:=Kd.at_int HR0.out x4_1 p134 q134
       obtain rfl:ad133 = ad134:=(by injection e134)
       replace hx134_0:=(HB.out.cell (World.block_lt_of_cell? w _ hx134_0)).trans hx134_0
       replace p134:=eq_true p134
       replace q134:=eq_true q134
       go_wp2
       go_roundg k1
       case measure=>have:=HK1.out;omega
       case rel=>exact⟨(ji6),(wrap64 (x4_1 + 1)),(by first|rfl|(simp;done)|(simp only [← hji6] <;> (first|rfl|simp))|(simp [*];done)),(by first|rfl|(simp;done)|(simp [*];done)),H',⟨by have:=HK1.out;omega⟩,⟨kB HB.out⟩⟩
      ·rw [if_neg c5] at H
       exact absurd H (by simp)
     ·rw [if_neg c4] at H
      have c4b0:decide (x4_1 < (l0.length:Int)) = false:=decide_eq_false c4
      clear c4
      obtain rfl:=Option.some.inj H
      go_wp2
      go_ret
      exact⟨by first|rfl|(simp [errW_none,errW_some] <;> rfl)|(simp [*,errW_none,errW_some] <;> rfl),kB HB.out⟩
  ·rw [if_neg c3] at H
   exact absurd H (by simp)

-- NOT PRINTED: function 102 (bytealg_IndexByte)

-- NOT PRINTED: function 84 (bytes_IndexByte)

/-! ### bytes_Equal: function 85 -/
def bytes_Equal.f (l0 : List Int) (l1 : List Int) : Option (Bool) := some ((strOfNums l0).toList == (strOfNums l1).toList)
set_option maxHeartbeats 8000000 in
set_option maxRecDepth 100000 in
theorem bytes_Equal.calls (A0 : Option Addr) (c0 : Nat) (l0 : List Int) (A1 : Option Addr) (c1 : Nat) (l1 : List Int) (r : Bool) (w : World) (hr0 : Kd.C (Kd.int .u8) w A0 l0.length l0) (hc0 : l0.length ≤ c0) (hr1 : Kd.C (Kd.int .u8) w A1 l1.length l1) (hc1 : l1.length ≤ c1) (h : bytes_Equal.f l0 l1 = some r) :
  Calls Try.prog 85 #[.slice A0 l0.length c0, .slice A1 l1.length c1] w fun e w' => e = .returned (.bool r) ∧ Drawn0 w w' := by
 have HR0:=mk0 hr0
 have HC0:=mk0 hc0
 clear hr0 hc0
 have HR1:=mk0 hr1
 have HC1:=mk0 hc1
 clear hr1 hc1
 have H:(some ((strOfNums l0).toList == (strOfNums l1).toList)) = some r:=h
 clear h
 obtain rfl:=Option.some.inj H
 have hcv3:=Kd.C_string (P:=Try.prog) (A:=A0) (c:=c0) Try.underlying22 Try.underlying5 Try.underlying9 HR0.out
 have hcv4:=Kd.C_string (P:=Try.prog) (A:=A1) (c:=c1) Try.underlying22 Try.underlying5 Try.underlying9 HR1.out
 go_enter Try.func85,Try.ntmps85
 go_wp2
 go_ret
 exact⟨by first|rfl|(simp;done)|(simp [*];done),by repeat (first|exact Drawn0.refl _|apply Drawn0.step)⟩

-- NOT PRINTED: function 86 (bytealg_Index)

/-! ### bytealg_Cutover: function 87 -/
def bytealg_Cutover.f (a0 : Int) : Option (Int) := some (wrap64 (Int.tdiv (wrap64 (a0 + 16)) 8))
set_option maxHeartbeats 8000000 in
set_option maxRecDepth 100000 in
theorem bytealg_Cutover.calls (a0 : Int) (r : Int) (w : World) (h : bytealg_Cutover.f a0 = some r) :
  Calls Try.prog 87 #[.int .i64 a0] w fun e w' => e = .returned (.int .i64 r) ∧ Drawn0 w w' := by
 have H:(some (wrap64 (Int.tdiv (wrap64 (a0 + 16)) 8))) = some r:=h
 clear h
 obtain rfl:=Option.some.inj H
 go_enter Try.func87,Try.ntmps87
 go_wp2
 go_ret
 exact⟨by first|rfl|(simp;done)|(simp [*];done),by repeat (first|exact Drawn0.refl _|apply Drawn0.step)⟩

/-! ### bytealg_hashStr_byte: function 103 -/
mutual
def bytealg_hashStr_byte.l0 : Nat → List Int → Int → Int → Option (Int × Int)
 | 0, _, _, _ => none
 | k + 1, x0, x4, x5 => if x5 < (x0.length : Int) then (if 0 ≤ x5 then (bytealg_hashStr_byte.l0 k x0 ((((x4 * 16777619) % 4294967296) + ((rd x0 x5) % 4294967296)) % 4294967296) (wrap64 (x5 + 1))) else (none)) else (bytealg_hashStr_byte.l1 k x4 1 16777619 (x0.length : Int))
def bytealg_hashStr_byte.l1 : Nat → Int → Int → Int → Int → Option (Int × Int)
 | 0, _, _, _, _ => none
 | k + 1, x4, x6, x7, x8 => if x8 > 0 then (if (Go.bits .and .i64 x8 1) = 0 then (bytealg_hashStr_byte.l1 k x4 x6 ((x7 * x7) % 4294967296) (x8 / 2)) else (bytealg_hashStr_byte.l1 k x4 ((x6 * x7) % 4294967296) ((x7 * x7) % 4294967296) (x8 / 2))) else (some (x4, x6))
end
def bytealg_hashStr_byte.f (k : Nat) (l0 : List Int) : Option (Int × Int) := bytealg_hashStr_byte.l0 k l0 0 0
theorem bytealg_hashStr_byte.mono_l : ∀ k, (∀ y0 y1 y2, LeO (bytealg_hashStr_byte.l0 k y0 y1 y2) (bytealg_hashStr_byte.l0 (k + 1) y0 y1 y2)) ∧ (∀ y0 y1 y2 y3, LeO (bytealg_hashStr_byte.l1 k y0 y1 y2 y3) (bytealg_hashStr_byte.l1 (k + 1) y0 y1 y2 y3))
 | 0 => ⟨fun _ _ _ r h => by simp [bytealg_hashStr_byte.l0] at h, fun _ _ _ _ r h => by simp [bytealg_hashStr_byte.l1] at h⟩
 | k + 1 => by
  obtain ⟨ih0, ih1⟩ := bytealg_hashStr_byte.mono_l k
  refine ⟨?_, ?_⟩
  ·intro y0 y1 y2
   unfold bytealg_hashStr_byte.l0
   repeat' first|(with_reducible first|exact ih0 _ _ _|exact ih1 _ _ _ _|exact LeO.refl _|exact LeO.none _|refine LeO.ite ?_ ?_|refine LeO.bind ?_ (fun _ => ?_))|exact LeO.none _|refine LeO.ite ?_ ?_|refine LeO.bind ?_ (fun _ => ?_)
  ·intro y0 y1 y2 y3
   unfold bytealg_hashStr_byte.l1
   repeat' first|(with_reducible first|exact ih0 _ _ _|exact ih1 _ _ _ _|exact LeO.refl _|exact LeO.none _|refine LeO.ite ?_ ?_|refine LeO.bind ?_ (fun _ => ?_))|exact LeO.none _|refine LeO.ite ?_ ?_|refine LeO.bind ?_ (fun _ => ?_)
theorem bytealg_hashStr_byte.mono : ∀ a0 k, LeO (bytealg_hashStr_byte.f k a0) (bytealg_hashStr_byte.f (k + 1) a0) := by
 intro a0 k
 obtain ⟨ih0, ih1⟩ := bytealg_hashStr_byte.mono_l k
 unfold bytealg_hashStr_byte.f
 repeat' first|(with_reducible first|exact ih0 _ _ _|exact ih1 _ _ _ _|exact LeO.refl _|exact LeO.none _|refine LeO.ite ?_ ?_|refine LeO.bind ?_ (fun _ => ?_))|exact LeO.none _|refine LeO.ite ?_ ?_|refine LeO.bind ?_ (fun _ => ?_)
set_option maxHeartbeats 8000000 in
set_option maxRecDepth 100000 in
theorem bytealg_hashStr_byte.calls (k : Nat) (A0 : Option Addr) (c0 : Nat) (l0 : List Int) (r1 : Int) (r2 : Int) (w : World) (hr0 : Kd.C (Kd.int .u8) w A0 l0.length l0) (hc0 : l0.length ≤ c0) (h : bytealg_hashStr_byte.f k l0 = some (r1, r2)) :
  Calls Try.prog 103 #[.slice A0 l0.length c0] w fun e w' => e = .returned (.tuple #[.int .u32 r1, .int .u32 r2]) ∧ Drawn0 w w' := by
 have HR0:=mk0 hr0
 have HC0:=mk0 hc0
 clear hr0 hc0
 have H:(bytealg_hashStr_byte.l0 k l0 0 0) = some (r1,r2):=h
 clear h
 have H':=mk0 H
 clear H
 go_enter Try.func103,Try.ntmps103
 go_wp2
 go_loopg [4,5] k (fun kq v4 v5 w'=>∃ (x4_1:Int) (x5_1:Int),v4 = .int .u32 x4_1 ∧ v5 = .int .i64 x5_1 ∧ Aside0 (bytealg_hashStr_byte.l0 kq l0 x4_1 x5_1 = some (r1,r2)) ∧ Aside0 (kq ≤ k) ∧ Drawn0 w w')
 case atStart=>exact⟨(0),(0),(by first|rfl|(simp;done)|(simp [*];done)),(by first|rfl|(simp;done)|(simp [*];done)),H',⟨Nat.le_refl _⟩,by repeat (first|exact Drawn0.refl _|apply Drawn0.step)⟩
 case round =>
  clear H'
  try clear c1
  obtain⟨x4_1,x5_1,rfl,rfl,HA,HK1,⟨m1,rfl⟩⟩:=hrel
  cases gk with
  | zero=>exact absurd HA.out (by simp [bytealg_hashStr_byte.l0])
  | succ k1 =>
   have H:=HA.out
   clear HA
   simp only [bytealg_hashStr_byte.l0] at H
   by_cases c2:x5_1 < (l0.length:Int)
   ·rw [if_pos c2] at H
    have c2b0:decide (x5_1 < (l0.length:Int)) = true:=decide_eq_true c2
    clear c2
    by_cases c3:0 ≤ x5_1
    ·rw [if_pos c3] at H
     have c3b0:decide (0 ≤ x5_1) = true:=decide_eq_true c3
     clear c3
     have H':=mk0 H
     clear H
     have p135:0 ≤ (x5_1:Int):=of_decide_eq_true (by first|(with_reducible assumption)|assumption)
     have q135:x5_1 < (l0.length:Int):=of_decide_eq_true (by first|(with_reducible assumption)|assumption)
     obtain⟨ad135,e135,hx135_0⟩:=Kd.at_int HR0.out x5_1 p135 q135
     cases e135
     replace p135:=eq_true p135
     replace q135:=eq_true q135
     go_wp2
     go_roundg k1
     case measure=>have:=HK1.out;omega
     case rel=>exact⟨((((x4_1 * 16777619) % 4294967296) + ((rd l0 x5_1) % 4294967296)) % 4294967296),(wrap64 (x5_1 + 1)),(by first|rfl|(simp;done)|(simp [*];done)),(by first|rfl|(simp;done)|(simp [*];done)),H',⟨by have:=HK1.out;omega⟩,by repeat (first|exact Drawn0.refl _|apply Drawn0.step)⟩
    ·rw [if_neg c3] at H
     exact absurd H (by simp)
   ·rw [if_neg c2] at H
    have c2b0:decide (x5_1 < (l0.length:Int)) = false:=decide_eq_false c2
    clear c2
    have H':=mk0 H
    clear H
    go_wp2
    go_loopg [6,7,8] k1 (fun kq v6 v7 v8 w'=>∃ (x6_2:Int) (x7_2:Int) (x8_2:Int),v6 = .int .u32 x6_2 ∧ v7 = .int .u32 x7_2 ∧ v8 = .int .i64 x8_2 ∧ Aside0 (bytealg_hashStr_byte.l1 kq x4_1 x6_2 x7_2 x8_2 = some (r1,r2)) ∧ Aside0 (kq ≤ k1) ∧ Drawn0 w w')
    case atStart=>exact⟨(1),(16777619),((l0.length:Int)),(by first|rfl|(simp;done)|(simp [*];done)),(by first|rfl|(simp;done)|(simp [*];done)),(by first|rfl|(simp;done)|(simp [*];done)),H',⟨Nat.le_refl _⟩,by repeat (first|exact Drawn0.refl _|apply Drawn0.step)⟩
    case round =>
     clear H'
     try clear c1
     try clear p1
     try clear q1
     try clear hx1
     try clear c2
     try clear c2b0
     try clear p2
     try clear c3
     try clear c3b0
     try clear hx135_0
     try clear p135
     try clear q135
     obtain⟨x6_2,x7_2,x8_2,rfl,rfl,rfl,HA,HK2,⟨m2,rfl⟩⟩:=hrel
     cases gk with
     | zero=>exact absurd HA.out (by simp [bytealg_hashStr_byte.l1])
     | succ k2 =>
      have H:=HA.out
      clear HA
      simp only [bytealg_hashStr_byte.l1] at H
      by_cases c4:x8_2 > 0
      ·rw [if_pos c4] at H
       have c4b0:decide (0 < x8_2) = true:=decide_eq_true c4
       clear c4
       by_cases c5:(Go.bits .and .i64 x8_2 1) = 0
       ·rw [if_pos c5] at H
        have c5b0:((Go.bits .and .i64 x8_2 1) == 0) = true:=beq_iff_eq.mpr c5
        have c5b1:((Go.bits .and .i64 x8_2 1) != 0) = false:=bne_eq_false_iff_eq.mpr c5
        clear c5
        have H':=mk0 H
        clear H
        go_wp2
        go_roundg k2
        case measure=>have:=HK1.out;have:=HK2.out;omega
        case rel=>exact⟨(x6_2),((x7_2 * x7_2) % 4294967296),(x8_2 / 2),(by first|rfl|(simp;done)|(simp [*];done)),(by first|rfl|(simp;done)|(simp [*];done)),(by first|rfl|(simp;done)|(simp [*];done)),H',⟨by have:=HK1.out;have:=HK2.out;omega⟩,by repeat (first|exact Drawn0.refl _|apply Drawn0.step)⟩
       ·rw [if_neg c5] at H
        have c5b0:((Go.bits .and .i64 x8_2 1) == 0) = false:=beq_eq_false_iff_ne.mpr c5
        have c5b1:((Go.bits .and .i64 x8_2 1) != 0) = true:=bne_iff_ne.mpr c5
        have H':=mk0 H
        clear H
        go_wp2
        go_roundg k2
        case measure=>have:=HK1.out;have:=HK2.out;omega
        case rel=>exact⟨((x6_2 * x7_2) % 4294967296),((x7_2 * x7_2) % 4294967296),(x8_2 / 2),(by first|rfl|(simp;done)|(simp [*];done)),(by first|rfl|(simp;done)|(simp [*];done)),(by first|rfl|(simp;done)|(simp [*];done)),H',⟨by have:=HK1.out;have:=HK2.out;omega⟩,by repeat (first|exact Drawn0.refl _|apply Drawn0.step)⟩
      ·rw [if_neg c4] at H
       have c4b0:decide (0 < x8_2) = false:=decide_eq_false c4
       clear c4
       simp only [Option.some.injEq,Prod.mk.injEq] at H
       obtain⟨rfl,rfl⟩:=H
       go_wp2
       go_ret2
       exact⟨by first|rfl|(simp;done)|(simp [*];done),by repeat (first|exact Drawn0.refl _|apply Drawn0.step)⟩

end Go.Proofs.Ytoinagnieobbpaa.QFnExactLongest
