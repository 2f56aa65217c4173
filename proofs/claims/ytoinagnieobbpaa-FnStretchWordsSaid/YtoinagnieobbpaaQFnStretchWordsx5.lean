-- A walk, made by walk.py, a program of this session's.
import Derived.Test.YtoinagnieobbpaaQFnStretchWordsx0
import Derived.Test.YtoinagnieobbpaaQFnStretchWordsx2
import Derived.Test.YtoinagnieobbpaaQFnStretchWordsx3
import Derived.Test.YtoinagnieobbpaaQFnStretchWordsx4
namespace Go.Proofs.Ytoinagnieobbpaa.QFnStretchWords
open Go.RowKit Go.Proofs.YtoinagnieobbpaaW.PrintWords Go.Proofs.YtoinagnieobbpaaW.PrintLast Go.Proofs.YtoinagnieobbpaaW.PrintMore
attribute [local go_sem] max2_int min2_int max_two min_two max_three min_three max_four min_four   -- for this text's walks alone
set_option linter.unusedVariables false
set_option linter.unusedSimpArgs false

/-! ### spec_LcpRows: function 38 -/
def spec_LcpRows.l0 : Nat → List Int → List Int → Int → List Int → Option (List Int)
 | 0, _, _, _, _ => none
 | k + 1, x0, x4, x5, x7 => if x5 < (x7.length : Int) then (if x5 = 0 then (if x4.length < 17592186044416 then (spec_LcpRows.l0 k x0 (x4 ++ [0]) (wrap64 (x5 + 1)) x7) else (none)) else (if 0 ≤ (wrap64 (x5 - 1)) then (if (wrap64 (x5 - 1)) < (x7.length : Int) then (if 0 ≤ (rd x7 (wrap64 (x5 - 1))) then (if (rd x7 (wrap64 (x5 - 1))) ≤ (x0.length : Int) then (if 0 ≤ x5 then (if 0 ≤ (rd x7 x5) then (if (rd x7 x5) ≤ (x0.length : Int) then ((spec_l05Common.f k (x0.drop ((rd x7 (wrap64 (x5 - 1))) : Int).toNat) (x0.drop ((rd x7 x5) : Int).toNat)).bind fun t158 => (if x4.length < 17592186044416 then (spec_LcpRows.l0 k x0 (x4 ++ [t158]) (wrap64 (x5 + 1)) x7) else (none))) else (none)) else (none)) else (none)) else (none)) else (none)) else (none)) else (none))) else (some x4)
def spec_LcpRows.f (k : Nat) (l0 : List Int) : Option (List Int) := (spec_SuffixRows.f k l0).bind fun t145 => (spec_LcpRows.l0 k l0 (([] : List Int)) 0 t145)
theorem spec_LcpRows.mono_l : ∀ k, (∀ y0 y1 y2 y3, LeO (spec_LcpRows.l0 k y0 y1 y2 y3) (spec_LcpRows.l0 (k + 1) y0 y1 y2 y3))
 | 0 => fun _ _ _ _ r h => by simp [spec_LcpRows.l0] at h
 | k + 1 => by
  have ih0 := spec_LcpRows.mono_l k
  ·intro y0 y1 y2 y3
   unfold spec_LcpRows.l0
   repeat' first|(with_reducible first|exact ih0 _ _ _ _|exact spec_SuffixRows.mono _ _|exact spec_l05Common.mono _ _ _|exact LeO.refl _|exact LeO.none _|refine LeO.ite ?_ ?_|refine LeO.bind ?_ (fun _ => ?_))|exact LeO.none _|refine LeO.ite ?_ ?_|refine LeO.bind ?_ (fun _ => ?_)
theorem spec_LcpRows.mono : ∀ a0 k, LeO (spec_LcpRows.f k a0) (spec_LcpRows.f (k + 1) a0) := by
 intro a0 k
 have ih0 := spec_LcpRows.mono_l k
 unfold spec_LcpRows.f
 repeat' first|(with_reducible first|exact ih0 _ _ _ _|exact spec_SuffixRows.mono _ _|exact spec_l05Common.mono _ _ _|exact LeO.refl _|exact LeO.none _|refine LeO.ite ?_ ?_|refine LeO.bind ?_ (fun _ => ?_))|exact LeO.none _|refine LeO.ite ?_ ?_|refine LeO.bind ?_ (fun _ => ?_)
def spec_LcpRows.T8 : Bool × List (List Nat × List Nat) := (true, [([], []), ([], []), ([], []), ([], []), ([3], [3]), ([2, 4], [2, 4]), ([5], [5]), ([1, 6], [1, 6]), ([], []), ([], []), ([], []), ([9, 10], [9, 10]), ([11], [11]), ([8, 12], [8, 12]), ([7, 13], [7, 13]), ([14], [14]), ([0, 15, 14], [0, 15]), ([16, 16, 0, 1, 2, 3, 4, 5, 6, 7, 8, 9, 10, 11, 12, 13, 14, 15, 16], [0, 16])])
def spec_LcpRows.B8 : List Nat := [0, 0, 0, 0, 8, 28, 60, 126, 0, 0, 0, 1536, 3584, 7936, 16382, 32766, 65535, 131071]
theorem spec_LcpRows.tab8 : rtab .any (opsOf Try.f38 8) = spec_LcpRows.T8 := by kernel_rfl
theorem spec_LcpRows.bits8 : waitsOk spec_LcpRows.T8.2 spec_LcpRows.B8 = true := by kernel_rfl
abbrev spec_LcpRows.m0 : Array Bool := #[F,F,F,F,F,F,F,F,F,F,F,F,F,F,F,F,F,F]
abbrev spec_LcpRows.m1 : Array Bool := #[T,F,F,F,F,F,F,F,F,F,F,F,F,F,F,F,F,F]
abbrev spec_LcpRows.m2 : Array Bool := #[T,T,F,F,F,F,F,F,F,F,F,F,F,F,F,F,F,F]
abbrev spec_LcpRows.m3 : Array Bool := #[T,T,T,F,F,F,F,F,F,F,F,F,F,F,F,F,F,F]
abbrev spec_LcpRows.m4 : Array Bool := #[T,T,T,T,F,F,F,F,F,F,F,F,F,F,F,F,F,F]
abbrev spec_LcpRows.m5 : Array Bool := #[T,T,T,T,T,F,F,F,F,F,F,F,F,F,F,F,F,F]
abbrev spec_LcpRows.m6 : Array Bool := #[T,T,T,T,T,T,F,F,F,F,F,F,F,F,F,F,F,F]
abbrev spec_LcpRows.m7 : Array Bool := #[T,T,T,T,T,T,F,F,T,F,F,F,F,F,F,F,F,F]
abbrev spec_LcpRows.m8 : Array Bool := #[T,T,T,T,T,T,F,F,T,T,F,F,F,F,F,F,F,F]
abbrev spec_LcpRows.m9 : Array Bool := #[T,T,T,T,T,T,F,F,T,T,T,F,F,F,F,F,F,F]
abbrev spec_LcpRows.m10 : Array Bool := #[T,T,T,T,T,T,F,F,T,T,T,T,F,F,F,F,F,F]
abbrev spec_LcpRows.m11 : Array Bool := #[T,T,T,T,T,T,T,F,T,T,T,T,F,F,F,F,F,F]
abbrev spec_LcpRows.m12 : Array Bool := #[T,T,T,T,T,T,T,T,T,T,T,T,F,F,F,F,F,F]
abbrev spec_LcpRows.m13 : Array Bool := #[T,T,T,T,T,T,T,T,T,T,T,T,T,F,F,F,F,F]
abbrev spec_LcpRows.m14 : Array Bool := #[T,T,T,T,T,T,T,T,T,T,T,T,T,T,F,F,F,F]
abbrev spec_LcpRows.m15 : Array Bool := #[T,T,T,T,T,T,T,T,T,T,T,T,T,T,T,F,F,F]
abbrev spec_LcpRows.m16 : Array Bool := #[T,T,T,T,T,T,T,T,T,T,T,T,T,T,T,T,F,F]
abbrev spec_LcpRows.m17 : Array Bool := #[T,T,T,T,T,T,T,T,T,T,T,T,T,T,T,T,T,F]
abbrev spec_LcpRows.m18 : Array Bool := #[T,T,T,T,T,T,T,T,T,T,T,T,T,T,T,T,T,T]
set_option maxHeartbeats 8000000 in
set_option maxRecDepth 100000 in
theorem spec_LcpRows.calls (k : Nat) (A0 : Option Addr) (c0 : Nat) (l0 : List Int) (r : List Int) (w : World) (hr0 : Kd.C (Kd.int .u8) w A0 l0.length l0) (hc0 : l0.length ≤ c0) (h : spec_LcpRows.f k l0 = some r) :
  Calls Try.prog 38 #[.slice A0 l0.length c0] w fun e w' => ∃ v0_ : Value, e = .returned (v0_) ∧ Kd.R (Kd.int .i64) 3 w' w.heap.size (fun _ => True) v0_ r ∧ Below w.heap.size w w' := by
 have HR0:=mk0 hr0
 have HC0:=mk0 hc0
 clear hr0 hc0
 have HB:=mk0 (Below.refl w.heap.size w)
 have H:((spec_SuffixRows.f k l0).bind fun t145=>(spec_LcpRows.l0 k l0 (([]:List Int)) 0 t145)) = some r:=h
 clear h
 replace H:=Option.bind_eq_some_iff.mp H
 obtain⟨t145,A20,H⟩:=H
 replace H:(spec_LcpRows.l0 k l0 (([]:List Int)) 0 t145) = some r:=H
 have A2:=mk0 A20
 clear A20
 obtain⟨y148,hy148⟩:∃ y_:List Int,y_ = (([]:List Int)):=⟨_,rfl⟩
 replace H:(spec_LcpRows.l0 k l0 y148 0 t145) = some r:=by first|(rw [hy148];with_reducible exact H)|(have H2_:=(Option.bind_some _ _).symm.trans H;rw [hy148];with_reducible exact H2_)|(have H2_:=(Option.bind_some _ _).symm.trans H;with_reducible exact H2_)|with_reducible exact H|(rw [hy148];exact H)|exact H
 have Ny148:=mk0 hy148
 clear hy148
 have H':=mk0 H
 clear H
 go_enter Try.func38,Try.ntmps38
 go_wp2_with (first|((with_reducible refine gate_callee (f:=42) rfl ?_);refine goesL_ (some 7) rfl rfl Try.func42 (by kernel_rfl) rfl #[.slice A0 l0.length c0] rfl (by (try simp only [mA,mC,mN]);first|done|rfl|(simp only [lD,lT];done)|(simp only [lD,lT];rfl)) ?_;(with_reducible refine (spec_SuffixRows.calls k _ _ l0 t145 _ ?side1 ?side2 A2.out).mono ?_);(case side1=>repeat (first|exact HR0.out|(with_reducible first|apply aC|apply nC|apply dC)));(case side2=>exact HC0.out);rintro e w3 ⟨v146,rfl,ho0,hb⟩;refine⟨_,rfl,?_⟩;have HO147:=mk0 (Kd.R_lower ho0 (kZ HB.out));replace HB:=mk0 (kS HB.out hb);(try clear hb);(try clear ho0))|((with_reducible refine gate_dst (N:=8) rfl ?_);refine Kd.R_lit (Kd.int .i64) _ 3 ?hg (N:=8) ?hd (xs:=([]:List Int)) (inner:=[]) (ok:=fun _=>True) (okp:=fun _=>True) ?hr ?hp (fun _ hk=>hk) trivial (Below.refl _ _) (Nat.le_refl _) (by simp) ?_;(case hd=>rfl);(case hg=>rfl);(case hr=>first|(go_simp;done)|(go_simp;rfl));(case hp=>exact (Reps.none _ _));intro v149 w4 ho5 hb hg_ hnew_;clear hg_ hnew_;(first|rw [← Ny148.out] at ho5|(simp only [Int.reduceToNat] at ho5;rw [← Ny148.out] at ho5));have HO150:=mk0 (Kd.R_lower (Kd.R_new' ho5 (Kd.R_lt (rR HO147.out))) (kZ HB.out));replace HO147:=mk0 (Kd.R_elder' (rR HO147.out) (Kd.R_base ho5) hb);replace HB:=mk0 (kS HB.out hb);clear hb ho5))
 go_loopg [4,5] k (fun kq v4 v5 w'=>∃ (x4_1:List Int) (x5_1:Int),v5 = .int .i64 x5_1 ∧ Aside0 (spec_LcpRows.l0 kq l0 x4_1 x5_1 t145 = some r) ∧ Aside0 (kq ≤ k) ∧ Aside0 (Kd.R (Kd.int .i64) 3 w' w.heap.size (fun k_=>some k_ ≠ (v146:Value).ownBlock) v4 x4_1) ∧ Aside0 (Kd.R (Kd.int .i64) 3 w' w.heap.size (fun k_=>some k_ ≠ (v4:Value).ownBlock) v146 t145) ∧ Aside0 (Below w.heap.size w w'))
 case atStart=>exact⟨(y148),(0),(by first|rfl|(simp;done)|(simp [*];done)),H',⟨Nat.le_refl _⟩,⟨rR (Kd.R_mono HO150.out (fun _ hk=>hk.2))⟩,⟨rR (Kd.R_mono HO147.out (fun _ hk=>hk.2))⟩,⟨kB HB.out⟩⟩
 case round =>
  clear H'
  try clear p2
  try clear c3
  try clear c4
  obtain⟨x4_1,x5_1,rfl,HA,HK1,HO_4,HO_7,HB⟩:=hrel
  cases gk with
  | zero=>exact absurd HA.out (by simp [spec_LcpRows.l0])
  | succ k1 =>
   have H:=HA.out
   clear HA
   simp only [spec_LcpRows.l0] at H
   by_cases c6:x5_1 < (t145.length:Int)
   rotate_left
   ·rw [if_neg c6] at H
    have c6b0:decide (x5_1 < (t145.length:Int)) = false:=decide_eq_false c6
    clear c6
    obtain rfl:=Option.some.inj H
    obtain⟨Ao26,co26,eo26⟩:=Kd.R_slice HO_7.out
    subst eo26
    go_wp2
    go_ret
    exact⟨_,by first|rfl|(simp [errW_none,errW_some] <;> rfl)|(simp [*,errW_none,errW_some] <;> rfl),rR (Kd.R_mono HO_4.out (fun _ hk=>trivial)),kB HB.out⟩

   rw [if_pos c6] at H
   have c6b0:decide (x5_1 < (t145.length:Int)) = true:=decide_eq_true c6
   clear c6
   by_cases c7:x5_1 = 0
   ·rw [if_pos c7] at H
    have c7b0:(x5_1 == 0) = true:=beq_iff_eq.mpr c7
    have c7b1:(x5_1 != 0) = false:=bne_eq_false_iff_eq.mpr c7
    clear c7
    by_cases c8:x4_1.length < 17592186044416
    rotate_left
    ·rw [if_neg c8] at H
     exact absurd H (by simp)
    rw [if_pos c8] at H
    have LMc8:=mk0 c8
    clear c8
    obtain⟨y151,hy151⟩:∃ y_:List Int,y_ = (x4_1 ++ [0]):=⟨_,rfl⟩
    replace H:(spec_LcpRows.l0 k1 l0 y151 (wrap64 (x5_1 + 1)) t145) = some r:=by first|(rw [hy151];with_reducible exact H)|(have H2_:=(Option.bind_some _ _).symm.trans H;rw [hy151];with_reducible exact H2_)|(have H2_:=(Option.bind_some _ _).symm.trans H;with_reducible exact H2_)|with_reducible exact H|(rw [hy151];exact H)|exact H
    have Ny151:=mk0 hy151
    clear hy151
    have H':=mk0 H
    clear H
    obtain⟨Ao9,co9,eo9⟩:=Kd.R_slice HO_7.out
    subst eo9
    go_wp2_with (first|((with_reducible refine gate_builtin (b:=.append) (xs:=#[.tmp 17,.tmp 18]) rfl ?_);at_builtin;refine Kd.R_append (Kd.int .i64) (w0:=w) w.heap.size rfl (.tmp 17) (.tmp 18) 48 3 (.int .i64 0) 8 rfl Try.underlying48 info3 rfl (by decide) (by omega) u4 x4_1 0 [.int .i64 0] (fun k_=>some k_ ≠ (.slice Ao9 t145.length co9:Value).ownBlock) (fun _=>False) rfl rfl ?aP (fun _ hk=>hk.elim) ?aF ?aO ?aB ?aS ?aL ?_;(case aP=>exact rfl);(case aB=>exact (kB HB.out));(case aF=>exact (fun k_ hk=>Kd.fresh' (Kd.R_lt (rR HO_7.out)) k_ hk));(case aO=>exact (rR HO_4.out));(case aS=>exact (kZ HB.out));(case aL=>have:=LMc8.out;omega);intro v152 w10 ho hb hg hat;rw [← Ny151.out] at ho;replace HO_7:=mk0 (Kd.R_after (ok:=(fun _=>True)) (rR (Kd.R_mono HO_7.out (fun _ hk=>⟨trivial,hk⟩))) hg hat);replace HB:=mk0 (hb);have HO153:=mk0 (ho);clear HO_4 ho hb hg hat))
    go_roundg k1
    case measure=>have:=HK1.out;omega
    case rel=>exact⟨(y151),(wrap64 (x5_1 + 1)),(by first|rfl|(simp;done)|(simp [*];done)),H',⟨by have:=HK1.out;omega⟩,⟨rR HO153.out⟩,⟨rR (Kd.R_mono HO_7.out (fun _ hk=>hk.2))⟩,⟨kB HB.out⟩⟩
   rw [if_neg c7] at H
   have c7b0:(x5_1 == 0) = false:=beq_eq_false_iff_ne.mpr c7
   have c7b1:(x5_1 != 0) = true:=bne_iff_ne.mpr c7
   obtain⟨ji11,hji11⟩:∃ j_:Int,(wrap64 (x5_1 - 1)) = j_:=⟨_,rfl⟩
   replace H:(if 0 ≤ (ji11) then (if (ji11) < (t145.length:Int) then (if 0 ≤ (rd t145 (ji11)) then (if (rd t145 (ji11)) ≤ (l0.length:Int) then (if 0 ≤ x5_1 then (if 0 ≤ (rd t145 x5_1) then (if (rd t145 x5_1) ≤ (l0.length:Int) then ((spec_l05Common.f k1 (l0.drop ((rd t145 (ji11)):Int).toNat) (l0.drop ((rd t145 x5_1):Int).toNat)).bind fun t158=>(if x4_1.length < 17592186044416 then (spec_LcpRows.l0 k1 l0 (x4_1 ++ [t158]) (wrap64 (x5_1 + 1)) t145) else (none))) else (none)) else (none)) else (none)) else (none)) else (none)) else (none)) else (none)) = some r:=by first|(rw [hji11] at H;exact H)|(simp only [hji11] at H ⊢;exact H)
   have hji11w:(IntKind.i64.wrap (x5_1 - 1)) = ji11:=(i64_w _).trans hji11
   by_cases c12:0 ≤ (ji11)
   rotate_left
   ·rw [if_neg c12] at H
    exact absurd H (by simp)
   rw [if_pos c12] at H
   have c12b0:decide (0 ≤ (ji11)) = true:=decide_eq_true c12
   clear c12
   by_cases c13:(ji11) < (t145.length:Int)
   rotate_left
   ·rw [if_neg c13] at H
    exact absurd H (by simp)
   rw [if_pos c13] at H
   have c13b0:decide ((ji11) < (t145.length:Int)) = true:=decide_eq_true c13
   clear c13
   by_cases c14:0 ≤ (rd t145 (ji11))
   rotate_left
   ·rw [if_neg c14] at H
    exact absurd H (by simp)
   rw [if_pos c14] at H
   have c14b0:=eq_true c14
   have c14b1:decide (0 ≤ (rd t145 (ji11))) = true:=decide_eq_true c14
   clear c14
   by_cases c15:(rd t145 (ji11)) ≤ (l0.length:Int)
   rotate_left
   ·rw [if_neg c15] at H
    exact absurd H (by simp)
   rw [if_pos c15] at H
   have c15b0:=eq_true c15
   have c15b1:decide ((rd t145 (ji11)) ≤ (l0.length:Int)) = true:=decide_eq_true c15
   clear c15
   by_cases c16:0 ≤ x5_1
   rotate_left
   ·rw [if_neg c16] at H
    exact absurd H (by simp)
   rw [if_pos c16] at H
   have c16b0:decide (0 ≤ x5_1) = true:=decide_eq_true c16
   clear c16
   by_cases c17:0 ≤ (rd t145 x5_1)
   rotate_left
   ·rw [if_neg c17] at H
    exact absurd H (by simp)
   rw [if_pos c17] at H
   have c17b0:=eq_true c17
   have c17b1:decide (0 ≤ (rd t145 x5_1)) = true:=decide_eq_true c17
   clear c17
   by_cases c18:(rd t145 x5_1) ≤ (l0.length:Int)
   rotate_left
   ·rw [if_neg c18] at H
    exact absurd H (by simp)
   rw [if_pos c18] at H
   have c18b0:=eq_true c18
   have c18b1:decide ((rd t145 x5_1) ≤ (l0.length:Int)) = true:=decide_eq_true c18
   clear c18
   replace H:=Option.bind_eq_some_iff.mp H
   obtain⟨t158,A190,H⟩:=H
   replace H:(if x4_1.length < 17592186044416 then (spec_LcpRows.l0 k1 l0 (x4_1 ++ [t158]) (wrap64 (x5_1 + 1)) t145) else (none)) = some r:=H
   have A19:=mk0 A190
   clear A190
   by_cases c20:x4_1.length < 17592186044416
   rotate_left
   ·rw [if_neg c20] at H
    exact absurd H (by simp)
   rw [if_pos c20] at H
   have LMc20:=mk0 c20
   clear c20
   obtain⟨y159,hy159⟩:∃ y_:List Int,y_ = (x4_1 ++ [t158]):=⟨_,rfl⟩
   replace H:(spec_LcpRows.l0 k1 l0 y159 (wrap64 (x5_1 + 1)) t145) = some r:=by first|(rw [hy159];with_reducible exact H)|(have H2_:=(Option.bind_some _ _).symm.trans H;rw [hy159];with_reducible exact H2_)|(have H2_:=(Option.bind_some _ _).symm.trans H;with_reducible exact H2_)|with_reducible exact H|(rw [hy159];exact H)|exact H
   have Ny159:=mk0 hy159
   clear hy159
   have H':=mk0 H
   clear H
   obtain⟨Ao21,co21,eo21⟩:=Kd.R_slice HO_7.out
   subst eo21
   try go_wp2
   replace HO_4:=mk0 (dR HO_4.out)
   replace HO_7:=mk0 (dR HO_7.out)
   replace HB:=mk0 (dZ HB.out)
   have p154:0 ≤ ((ji11):Int):=of_decide_eq_true (by first|(with_reducible assumption)|assumption)
   have q154:(ji11) < (t145.length:Int):=of_decide_eq_true (by first|(with_reducible assumption)|assumption)
   obtain⟨ad154,e154,hx154_0⟩:=Kd.at_int (Kd.R_reads' HO_7.out).2.2 (ji11) p154 q154
   cases e154
   replace p154:=eq_true p154
   replace q154:=eq_true q154
   obtain⟨i023,hi023,_,hsz23,_⟩:=info_parts info5
   obtain⟨A23,hcut23,hA23,hC23⟩:=print_drop_of (P:=Try.prog) (Value.int .u8) 0 22 5 .i64 Try.underlying22 hi023 hsz23 A0 c0 l0 (rd t145 (ji11)) (of_decide_eq_true (by first|(with_reducible assumption)|assumption)) (of_decide_eq_true (by first|(with_reducible assumption)|assumption)) HC0.out
   have HR155:=mk0 (Kd.C_of_reads (h1:=fun _=>rfl) (hA23 _ (Kd.reads_of_C HR0.out)))
   have HC155:=mk0 hC23
   clear hA23 hC23 hi023 hsz23
   have p156:0 ≤ (x5_1:Int):=of_decide_eq_true (by first|(with_reducible assumption)|assumption)
   have q156:x5_1 < (t145.length:Int):=of_decide_eq_true (by first|(with_reducible assumption)|assumption)
   obtain⟨ad156,e156,hx156_0⟩:=Kd.at_int (Kd.R_reads' HO_7.out).2.2 x5_1 p156 q156
   obtain rfl:ad154 = ad156:=(by injection e156)
   replace p156:=eq_true p156
   replace q156:=eq_true q156
   obtain⟨i024,hi024,_,hsz24,_⟩:=info_parts info5
   obtain⟨A24,hcut24,hA24,hC24⟩:=print_drop_of (P:=Try.prog) (Value.int .u8) 0 22 5 .i64 Try.underlying22 hi024 hsz24 A0 c0 l0 (rd t145 x5_1) (of_decide_eq_true (by first|(with_reducible assumption)|assumption)) (of_decide_eq_true (by first|(with_reducible assumption)|assumption)) HC0.out
   have HR157:=mk0 (Kd.C_of_reads (h1:=fun _=>rfl) (hA24 _ (Kd.reads_of_C HR0.out)))
   have HC157:=mk0 hC24
   clear hA24 hC24 hi024 hsz24
   refine start_ (n:=18) (S:=fun w'=>w'.cell? (ad154.add ((ji11)).toNat) = some (.int .i64 (rd t145 (ji11))) ∧ w'.cell? (ad154.add (x5_1).toNat) = some (.int .i64 (rd t145 x5_1))) (ds:=[15,16]) spec_LcpRows.m0 (by kernel_rfl) rfl rfl ⟨hx154_0,hx156_0⟩ (fun hHeld=>?_);refine with_tabW spec_LcpRows.tab8 spec_LcpRows.bits8 (fun HT_ HW_=>?_)
   generalize wr.drew = w22 at HO_4 HO_7 HB HR155 HR157 hx154_0 hx156_0 hHeld ⊢
   refine pure_ (i:=0) (N:=some 20) (v:=?_) (a':=?_) spec_LcpRows.m1 rfl rfl (any_of HT_.out (by kernel_rfl)) (fun _ _ _ h=>h) (Or.inl ⟨by rfl,?_⟩) ?_ ?_
   rotate_left
   ·intro w'
    go_simp
    with_reducible rfl
   rotate_left
   ·simp only [Act.put,sA,sO,sS,i64_w,i32_w]
    rfl
   refine pure_ (i:=1) (N:=some 21) (v:=?_) (a':=?_) spec_LcpRows.m2 rfl rfl (any_of HT_.out (by kernel_rfl)) (fun _ _ _ h=>h) (Or.inl ⟨by rfl,?_⟩) ?_ ?_
   rotate_left
   ·intro w'
    go_simp
    with_reducible rfl
   rotate_left
   ·simp only [Act.put,sA,sO,sS,i64_w,i32_w]
    rfl
   refine pure_ (i:=2) (N:=some 22) (v:=?_) (a':=?_) spec_LcpRows.m3 rfl rfl (any_of HT_.out (by kernel_rfl)) (fun _ _ _ h=>h) (Or.inl ⟨by rfl,?_⟩) ?_ ?_
   rotate_left
   ·intro w'
    go_simp
    with_reducible rfl
   rotate_left
   ·simp only [Act.put,sA,sO,sS,i64_w,i32_w]
    rfl
   refine pure_ (i:=3) (N:=some 23) (v:=?_) (a':=?_) spec_LcpRows.m4 rfl rfl (any_of HT_.out (by kernel_rfl)) (fun _ _ _ h=>h) (Or.inl ⟨by rfl,?_⟩) ?_ ?_
   rotate_left
   ·intro w'
    go_simp
    with_reducible rfl
   rotate_left
   ·simp only [Act.put,sA,sO,sS,i64_w,i32_w]
    rfl
   refine pure_ (i:=4) (N:=some 24) (v:=?_) (a':=?_) spec_LcpRows.m5 rfl rfl (any_of HT_.out (by kernel_rfl)) (fun _ _ _ h=>h) (Or.inl ⟨by rfl,?_⟩) ?_ ?_
   rotate_left
   ·intro w'
    go_simp
    with_reducible rfl
   rotate_left
   ·simp only [Act.put,sA,sO,sS,i64_w,i32_w]
    rfl
   refine pure_ (i:=5) (N:=some 25) (v:=?_) (a':=?_) spec_LcpRows.m6 rfl rfl (any_of HT_.out (by kernel_rfl)) (fun _ _ _ h=>h) (Or.inl ⟨by rfl,?_⟩) ?_ ?_
   rotate_left
   ·intro w'
    go_simp
    with_reducible rfl
   rotate_left
   ·simp only [Act.put,sA,sO,sS,i64_w,i32_w]
    rfl
   refine pure_ (i:=8) (N:=some 28) (v:=?_) (a':=?_) spec_LcpRows.m7 rfl rfl (any_of HT_.out (by kernel_rfl)) (fun _ _ _ h=>h) (Or.inl ⟨by rfl,?_⟩) ?_ ?_
   rotate_left
   ·intro w'
    go_simp
    with_reducible rfl
   rotate_left
   ·simp only [Act.put,sA,sO,sS,i64_w,i32_w]
    rfl
   refine pure_ (i:=9) (N:=some 29) (v:=?_) (a':=?_) spec_LcpRows.m8 rfl rfl (any_of HT_.out (by kernel_rfl)) (fun _ _ _ h=>h) (Or.inl ⟨by rfl,?_⟩) ?_ ?_
   rotate_left
   ·intro w'
    go_simp
    with_reducible rfl
   rotate_left
   ·simp only [Act.put,sA,sO,sS,i64_w,i32_w]
    rfl
   refine pure_ (i:=10) (N:=some 30) (v:=?_) (a':=?_) spec_LcpRows.m9 rfl rfl (any_of HT_.out (by kernel_rfl)) (fun _ _ _ h=>h) (Or.inl ⟨by rfl,?_⟩) ?_ ?_
   rotate_left
   ·intro w'
    go_simp
    with_reducible rfl
   rotate_left
   ·simp only [Act.put,sA,sO,sS,i64_w,i32_w]
    rfl
   refine pure_ (i:=11) (N:=some 31) (v:=?_) (a':=?_) spec_LcpRows.m10 rfl rfl (any_of HT_.out (by kernel_rfl)) (fun _ _ _ h=>h) (Or.inl ⟨by rfl,?_⟩) ?_ ?_
   rotate_left
   ·intro w'
    go_simp
    with_reducible rfl
   rotate_left
   ·simp only [Act.put,sA,sO,sS,i64_w,i32_w]
    rfl
   refine take_ (i:=6) (N:=some 26) (v:=?_) (a':=?_) spec_LcpRows.m11 rfl rfl (take_ofW HT_.out HW_.out (by kernel_rfl)) (fun _ _ _ h=>h) (Or.inl ⟨by rfl,?_⟩) hHeld ?_ ?_
   rotate_left
   ·rintro w' ⟨s0,s1⟩
    go_simp
    with_reducible rfl
   rotate_left
   ·simp only [Act.put,sA,sO,sS,i64_w,i32_w]
    rfl
   refine pure_ (i:=7) (N:=some 27) (v:=?_) (a':=?_) spec_LcpRows.m12 rfl rfl (any_of HT_.out (by kernel_rfl)) (fun _ _ _ h=>h) (Or.inl ⟨by rfl,?_⟩) ?_ ?_
   rotate_left
   ·intro w'
    go_simp
    with_reducible rfl
   rotate_left
   ·simp only [Act.put,sA,sO,sS,i64_w,i32_w]
    rfl
   refine take_ (i:=12) (N:=some 32) (v:=?_) (a':=?_) spec_LcpRows.m13 rfl rfl (take_ofW HT_.out HW_.out (by kernel_rfl)) (fun _ _ _ h=>h) (Or.inl ⟨by rfl,?_⟩) hHeld ?_ ?_
   rotate_left
   ·rintro w' ⟨s0,s1⟩
    go_simp
    with_reducible rfl
   rotate_left
   ·simp only [Act.put,sA,sO,sS,i64_w,i32_w]
    rfl
   refine pure_ (i:=13) (N:=some 33) (v:=?_) (a':=?_) spec_LcpRows.m14 rfl rfl (any_of HT_.out (by kernel_rfl)) (fun _ _ _ h=>h) (Or.inl ⟨by rfl,?_⟩) ?_ ?_
   rotate_left
   ·intro w'
    go_simp
    with_reducible rfl
   rotate_left
   ·simp only [Act.put,sA,sO,sS,i64_w,i32_w]
    rfl
   refine one_ (i:=14) (N:=some 34) spec_LcpRows.m15 rfl rfl (one_of HT_.out (by kernel_rfl)) (by decide) (fun K hK=>?_)
   refine goes_ Try.func49 (by kernel_rfl) rfl #[.slice A23 (l0.drop ((rd t145 (ji11)):Int).toNat).length (c0 - (rd t145 (ji11)).toNat),.slice A24 (l0.drop ((rd t145 x5_1):Int).toNat).length (c0 - (rd t145 x5_1).toNat)] (by rfl) rfl rfl (by (try simp only [mA,mC,mN]);first|done|(rw [show (l0.drop ((rd t145 (ji11)):Int).toNat).length = (l0.length - (rd t145 (ji11)).toNat) from List.length_drop] <;> rfl)|(rw [show (l0.drop ((rd t145 x5_1):Int).toNat).length = (l0.length - (rd t145 x5_1).toNat) from List.length_drop] <;> rfl)|(simp only [hji11];rfl)|rfl|(simp only [lD,lT];done)|(simp only [lD,lT];rfl)) ?_
   with_reducible refine (spec_l05Common.calls k1 _ _ (l0.drop ((rd t145 (ji11)):Int).toNat) _ _ (l0.drop ((rd t145 x5_1):Int).toNat) t158 _ ?side1 ?side2 ?side3 ?side4 A19.out).mono ?_
   (case side1=>exact kC (Kd.C_below HR155.out HB.out))
   (case side2=>exact HC155.out)
   (case side3=>exact kC (Kd.C_below HR157.out HB.out))
   (case side4=>exact HC157.out)
   rintro e w' ⟨rfl,⟨nd,rfl⟩⟩
   refine⟨_,rfl,?_⟩
   refine hK.out _ _ ⟨hHeld.1,hHeld.2⟩ (fun hHeld=>?_)
   clear hK K
   refine norm_ (a':=?_) ?_ ?_
   rotate_left
   ·show Act.put _ (some 34) _ = _
    simp only [Act.put,sA,sO,sS,i64_w,i32_w]
    rfl
   refine last_ (i:=15) (N:=some 35) spec_LcpRows.m16 rfl rfl (one_of HT_.out (by kernel_rfl)) (by decide) (fun K hK=>?_)
   refine value_ (w1:=?_) (v:=?_) (by rfl) rfl ?_ ?_
   rotate_left 2
   ·go_simp
    constructor
    ·rfl
    ·rfl
   refine hK.out _ _ ?_
   clear hK K
   refine norm_ (a':=?_) ?_ ?_
   rotate_left
   ·show Act.put _ (some 35) _ = _
    simp only [Act.put,sA,sO,sS,i64_w,i32_w]
    rfl
   refine last_ (i:=16) (N:=some 36) spec_LcpRows.m17 rfl rfl (one_of HT_.out (by kernel_rfl)) (by decide) (fun K hK=>?_)
   refine Kd.R_append_step (Kd.int .i64) (w0:=w) w.heap.size (by rfl) (.tmp 20) (.tmp 35) 48 3 (.int .i64 0) 8 rfl Try.underlying48 info3 rfl (by decide) (by omega) u4 x4_1 t158 [.int .i64 t158] (fun k_=>some k_ ≠ (.slice (some ad154) t145.length co21:Value).ownBlock) (fun _=>False) rfl rfl ?aP (fun _ hk=>hk.elim) ?aF ?aO ?aB ?aS ?aL ?_
   (case aP=>exact rfl)
   (case aB=>exact (kB HB.out))
   (case aF=>exact (fun k_ hk=>Kd.fresh' (Kd.R_lt (rR HO_7.out)) k_ hk))
   (case aO=>exact (rR HO_4.out))
   (case aS=>exact (kZ HB.out))
   (case aL=>have:=LMc20.out;omega)
   intro v160 w25 ho hb hg hat
   rw [← Ny159.out] at ho
   replace HO_7:=mk0 (Kd.R_after (ok:=(fun _=>True)) (rR (Kd.R_mono HO_7.out (fun _ hk=>⟨trivial,hk⟩))) hg hat)
   replace HB:=mk0 (hb)
   have HO161:=mk0 (ho)
   clear HO_4
   clear ho hb hg hat
   refine hK.out _ _ ?_
   clear hK K
   refine norm_ (a':=?_) ?_ ?_
   rotate_left
   ·show Act.put _ (some 36) _ = _
    simp only [Act.put,sA,sO,sS,i64_w,i32_w]
    rfl
   refine pure_ (i:=17) (N:=some 4) (v:=?_) (a':=?_) spec_LcpRows.m18 rfl rfl (any_of HT_.out (by kernel_rfl)) (fun _ _ _ h=>h) (Or.inl ⟨by rfl,?_⟩) ?_ ?_
   rotate_left
   ·intro w'
    go_simp
    with_reducible rfl
   rotate_left
   ·simp only [Act.put,sA,sO,sS,i64_w,i32_w]
    rfl
   refine done_ (done_of HT_.out (by kernel_rfl)) ?_
   try go_wp2
   go_roundg k1
   case measure=>have:=HK1.out;omega
   case rel=>exact⟨(y159),(wrap64 (x5_1 + 1)),(by first|rfl|(simp;done)|(simp [*];done)),H',⟨by have:=HK1.out;omega⟩,⟨rR HO161.out⟩,⟨rR (Kd.R_mono HO_7.out (fun _ hk=>hk.2))⟩,⟨kB HB.out⟩⟩
/-! ### spec_StretchOk: function 11 -/
def spec_StretchOk.f (k : Nat) (l0 : List Int) (a1_0 : Int) (a1_1 : Int) (a1_2 : Int) : Option (Bool) := (spec_TextOk.f l0).bind fun t163 => (if t163 = true then ((spec_LcpRows.f k l0).bind fun t164 => ((spec_l11Ok.f k t164 a1_0 a1_1 a1_2).bind fun t167 => (some t167))) else (some false))
theorem spec_StretchOk.mono : ∀ a0 a1 a2 a3 k, LeO (spec_StretchOk.f k a0 a1 a2 a3) (spec_StretchOk.f (k + 1) a0 a1 a2 a3) := by
 intro a0 a1 a2 a3 k
 unfold spec_StretchOk.f
 repeat' first|(with_reducible first|exact spec_LcpRows.mono _ _|exact spec_l11Ok.mono _ _ _ _ _|exact LeO.refl _|exact LeO.none _|refine LeO.ite ?_ ?_|refine LeO.bind ?_ (fun _ => ?_))|exact LeO.none _|refine LeO.ite ?_ ?_|refine LeO.bind ?_ (fun _ => ?_)
def spec_StretchOk.T1 : Bool × List (List Nat × List Nat) := (true, [([], []), ([0], [0]), ([1, 1], [1]), ([2], [2]), ([3, 2, 2], [2, 3]), ([2], [2]), ([4, 5, 4, 2], [2, 4, 5]), ([2, 6], [2, 6]), ([7, 6, 0, 1, 2, 3, 4, 5, 6, 7], [7])])
def spec_StretchOk.B1 : List Nat := [0, 1, 3, 7, 15, 7, 63, 127, 255]
theorem spec_StretchOk.tab1 : rtab .any (opsOf Try.f11 1) = spec_StretchOk.T1 := by kernel_rfl
theorem spec_StretchOk.bits1 : waitsOk spec_StretchOk.T1.2 spec_StretchOk.B1 = true := by kernel_rfl
abbrev spec_StretchOk.m0 : Array Bool := #[F,F,F,F,F,F,F,F,F]
abbrev spec_StretchOk.m1 : Array Bool := #[T,F,F,F,F,F,F,F,F]
abbrev spec_StretchOk.m2 : Array Bool := #[T,T,F,F,F,F,F,F,F]
abbrev spec_StretchOk.m3 : Array Bool := #[T,T,T,F,F,F,F,F,F]
abbrev spec_StretchOk.m4 : Array Bool := #[T,T,T,T,F,F,F,F,F]
abbrev spec_StretchOk.m5 : Array Bool := #[T,T,T,T,F,T,F,F,F]
abbrev spec_StretchOk.m6 : Array Bool := #[T,T,T,T,T,T,F,F,F]
abbrev spec_StretchOk.m7 : Array Bool := #[T,T,T,T,T,T,T,F,F]
abbrev spec_StretchOk.m8 : Array Bool := #[T,T,T,T,T,T,T,T,F]
abbrev spec_StretchOk.m9 : Array Bool := #[T,T,T,T,T,T,T,T,T]
abbrev spec_StretchOk.m10 : Array Bool := #[T,T,T,T,T,F,F,F,F]
set_option maxHeartbeats 8000000 in
set_option maxRecDepth 100000 in
theorem spec_StretchOk.calls (k : Nat) (A0 : Option Addr) (c0 : Nat) (l0 : List Int) (a1_0 : Int) (a1_1 : Int) (a1_2 : Int) (r : Bool) (w : World) (hr0 : Kd.C (Kd.int .u8) w A0 l0.length l0) (hc0 : l0.length ≤ c0) (h : spec_StretchOk.f k l0 a1_0 a1_1 a1_2 = some r) :
  Calls Try.prog 11 #[.slice A0 l0.length c0, .agg #[.int .i64 a1_0, .int .i64 a1_1, .int .i64 a1_2]] w fun e w' => e = .returned (.bool r) ∧ Below w.heap.size w w' := by
 have hu27:=Try.underlying27
 have HR0:=mk0 hr0
 have HC0:=mk0 hc0
 clear hr0 hc0
 have HB:=mk0 (Below.refl w.heap.size w)
 have H:((spec_TextOk.f l0).bind fun t163=>(if t163 = true then ((spec_LcpRows.f k l0).bind fun t164=>((spec_l11Ok.f k t164 a1_0 a1_1 a1_2).bind fun t167=>(some t167))) else (some false))) = some r:=h
 clear h
 replace H:=Option.bind_eq_some_iff.mp H
 obtain⟨t163,A30,H⟩:=H
 replace H:(if t163 = true then ((spec_LcpRows.f k l0).bind fun t164=>((spec_l11Ok.f k t164 a1_0 a1_1 a1_2).bind fun t167=>(some t167))) else (some false)) = some r:=H
 have A3:=mk0 A30
 clear A30
 by_cases c4:t163 = true
 ·subst c4
  have H1:((spec_LcpRows.f k l0).bind fun t164=>((spec_l11Ok.f k t164 a1_0 a1_1 a1_2).bind fun t167=>(some t167))) = some r:=by rw [if_pos rfl] at H;exact H
  clear H
  have H:=H1
  clear H1
  replace H:=Option.bind_eq_some_iff.mp H
  obtain⟨t164,A50,H⟩:=H
  replace H:((spec_l11Ok.f k t164 a1_0 a1_1 a1_2).bind fun t167=>(some t167)) = some r:=H
  have A5:=mk0 A50
  clear A50
  replace H:=Option.bind_eq_some_iff.mp H
  obtain⟨t167,A60,H⟩:=H
  replace H:(some t167) = some r:=H
  have A6:=mk0 A60
  clear A60
  obtain rfl:=Option.some.inj H
  go_enter Try.func11,Try.ntmps11
  try go_wp2_with (first|((with_reducible refine gate_dst (N:=3) rfl ?_);refine box_event ?hg (N:=3) ?hd (cs:=#[.int .i64 a1_0,.int .i64 a1_1,.int .i64 a1_2]) (t:=27) ?hr ?_;(case hd=>rfl);(case hg=>rfl);(case hr=>first|(go_simp;done)|(go_simp;rfl));intro gb162 hg w7 hbox hb;have BK162:=mk0 (hbox);have GW162:=mk0 ((by rw [hg];exact (kZ HB.out):w.heap.size ≤ gb162));have GE162:=mk0 ((by rw [hg];exact (kZ HB.out):w.heap.size ≤ gb162));replace HB:=mk0 (kS HB.out hb);clear hb hbox hg))
  replace BK162:=mk0 (dB BK162.out)
  replace HB:=mk0 (dZ HB.out)
  refine start_ (n:=9) (S:=fun w'=>w'.cell? ⟨gb162,0,none⟩ = some (.int .i64 a1_0) ∧ w'.cell? ⟨gb162,1,none⟩ = some (.int .i64 a1_1) ∧ w'.cell? ⟨gb162,2,none⟩ = some (.int .i64 a1_2)) (ds:=[]) spec_StretchOk.m0 (by kernel_rfl) rfl rfl (ck3 BK162.out) (fun hHeld=>?_);refine with_tabW spec_StretchOk.tab1 spec_StretchOk.bits1 (fun HT_ HW_=>?_)
  generalize w7.drew = w8 at BK162 HB hHeld ⊢
  refine pure_ (i:=0) (N:=some 5) (v:=?_) (a':=?_) spec_StretchOk.m1 rfl rfl (any_of HT_.out (by kernel_rfl)) (fun _ _ _ h=>h) (Or.inl ⟨by rfl,?_⟩) ?_ ?_
  rotate_left
  ·intro w'
   go_simp
   with_reducible rfl
  rotate_left
  ·simp only [Act.put,sA,sO,sS,i64_w,i32_w]
   rfl
  refine one_ (i:=1) (N:=some 6) spec_StretchOk.m2 rfl rfl (one_of HT_.out (by kernel_rfl)) (by decide) (fun K hK=>?_)
  refine goes_ Try.func36 (by kernel_rfl) rfl #[.slice A0 l0.length c0] (by rfl) rfl rfl (by (try simp only [mA,mC,mN]);first|done|rfl|(simp only [lD,lT];done)|(simp only [lD,lT];rfl)) ?_
  with_reducible refine (spec_TextOk.calls _ _ l0 true _ ?side1 ?side2 A3.out).mono ?_
  (case side1=>exact kC (Kd.C_below HR0.out HB.out))
  (case side2=>exact HC0.out)
  rintro e w' ⟨rfl,⟨nd,rfl⟩⟩
  refine⟨_,rfl,?_⟩
  refine hK.out _ _ (ck3 BK162.out) (fun hHeld=>?_)
  clear hK K
  refine norm_ (a':=?_) ?_ ?_
  rotate_left
  ·show Act.put _ (some 6) _ = _
   simp only [Act.put,sA,sO,sS,i64_w,i32_w]
   rfl
  refine pure_ (i:=2) (N:=some 7) (v:=?_) (a':=?_) spec_StretchOk.m3 rfl rfl (any_of HT_.out (by kernel_rfl)) (fun _ _ _ h=>h) (Or.inl ⟨by rfl,?_⟩) ?_ ?_
  rotate_left
  ·intro w'
   go_simp
   with_reducible rfl
  rotate_left
  ·simp only [Act.put,sA,sO,sS,i64_w,i32_w]
   rfl
  refine pure_ (i:=3) (N:=some 8) (v:=?_) (a':=?_) spec_StretchOk.m4 rfl rfl (any_of HT_.out (by kernel_rfl)) (fun _ _ _ h=>h) (Or.inl ⟨by rfl,?_⟩) ?_ ?_
  rotate_left
  ·intro w'
   go_simp
   with_reducible rfl
  rotate_left
  ·simp only [Act.put,sA,sO,sS,i64_w,i32_w]
   rfl
  refine take_ (i:=5) (N:=some 10) (v:=?_) (a':=?_) spec_StretchOk.m5 rfl rfl (take_ofW HT_.out HW_.out (by kernel_rfl)) (fun _ _ _ h=>h) (Or.inl ⟨by rfl,?_⟩) hHeld ?_ ?_
  rotate_left
  ·rintro w' ⟨s0,s1,s2⟩
   go_simp
   with_reducible rfl
  rotate_left
  ·simp only [Act.put,sA,sO,sS,i64_w,i32_w]
   rfl
  refine one_ (i:=4) (N:=some 9) spec_StretchOk.m6 rfl rfl (one_of HT_.out (by kernel_rfl)) (by decide) (fun K hK=>?_)
  refine goes_ Try.func38 (by kernel_rfl) rfl #[.slice A0 l0.length c0] (by rfl) rfl rfl (by (try simp only [mA,mC,mN]);first|done|rfl|(simp only [lD,lT];done)|(simp only [lD,lT];rfl)) ?_
  with_reducible refine (spec_LcpRows.calls k _ _ l0 t164 _ ?side1 ?side2 A5.out).mono ?_
  (case side1=>repeat (first|exact (Kd.C_below HR0.out (kB HB.out))|(with_reducible first|apply aC|apply nC|apply dC)))
  (case side2=>exact HC0.out)
  rintro e w9 ⟨v165,rfl,ho0,hb⟩
  refine⟨_,rfl,?_⟩
  have HO166:=mk0 (Kd.R_lower ho0 (kZ HB.out))
  replace BK162:=mk0 (kK BK162.out hb)
  replace HB:=mk0 (kS HB.out hb)
  (try clear hb)
  (try clear ho0)
  obtain⟨Ao10,co10,eo10⟩:=Kd.R_slice HO166.out
  (first|subst eo10|(injection eo10 with f1_ f2_ f3_;have f4_:=f1_.symm;have f5_:=f3_.symm;clear f1_ f2_ f3_;subst f4_;subst f5_))
  refine hK.out _ _ (ck3 BK162.out) (fun hHeld=>?_)
  clear hK K
  refine norm_ (a':=?_) ?_ ?_
  rotate_left
  ·show Act.put _ (some 9) _ = _
   simp only [Act.put,sA,sO,sS,i64_w,i32_w]
   rfl
  refine one_ (i:=6) (N:=some 11) spec_StretchOk.m7 rfl rfl (one_of HT_.out (by kernel_rfl)) (by decide) (fun K hK=>?_)
  refine goes_ Try.func37 (by kernel_rfl) rfl #[.slice Ao10 t164.length co10,.agg #[.int .i64 a1_0,.int .i64 a1_1,.int .i64 a1_2]] (by rfl) rfl rfl (by (try simp only [mA,mC,mN]);first|done|rfl|(simp only [lD,lT];done)|(simp only [lD,lT];rfl)) ?_
  with_reducible refine (spec_l11Ok.calls k _ _ t164 a1_0 a1_1 a1_2 t167 _ ?side1 ?side2 A6.out).mono ?_
  (case side1=>exact kC (Kd.R_reads' HO166.out).2.2)
  (case side2=>exact (Kd.R_reads' HO166.out).2.1)
  rintro e w11 ⟨rfl,hb⟩
  refine⟨_,rfl,?_⟩
  replace HO166:=mk0 (bR HO166.out hb)
  replace BK162:=mk0 (kK BK162.out hb)
  replace HB:=mk0 (kS HB.out hb)
  (try clear hb)
  refine hK.out _ _ (ck3 BK162.out) (fun hHeld=>?_)
  clear hK K
  refine norm_ (a':=?_) ?_ ?_
  rotate_left
  ·show Act.put _ (some 11) _ = _
   simp only [Act.put,sA,sO,sS,i64_w,i32_w]
   rfl
  refine pure_ (i:=7) (N:=some 12) (v:=?_) (a':=?_) spec_StretchOk.m8 rfl rfl (any_of HT_.out (by kernel_rfl)) (fun _ _ _ h=>h) (Or.inl ⟨by rfl,?_⟩) ?_ ?_
  rotate_left
  ·intro w'
   go_simp
   with_reducible rfl
  rotate_left
  ·simp only [Act.put,sA,sO,sS,i64_w,i32_w]
   rfl
  refine pure_ (i:=8) (N:=some 4) (v:=?_) (a':=?_) spec_StretchOk.m9 rfl rfl (any_of HT_.out (by kernel_rfl)) (fun _ _ _ h=>h) (Or.inl ⟨by rfl,?_⟩) ?_ ?_
  rotate_left
  ·intro w'
   go_simp
   with_reducible rfl
  rotate_left
  ·simp only [Act.put,sA,sO,sS,i64_w,i32_w]
   rfl
  refine done_ (done_of HT_.out (by kernel_rfl)) ?_
  try go_wp2
  go_ret
  exact⟨by first|rfl|(simp [errW_none,errW_some] <;> rfl)|(simp [*,errW_none,errW_some] <;> rfl),kB HB.out⟩
 ·replace c4:=Bool.eq_false_iff.mpr c4
  subst c4
  have H1:(some false) = some r:=by rw [if_neg (show ¬ (false = true) by decide)] at H;exact H
  clear H
  have H:=H1
  clear H1
  obtain rfl:=Option.some.inj H
  go_enter Try.func11,Try.ntmps11
  try go_wp2_with (first|((with_reducible refine gate_dst (N:=3) rfl ?_);refine box_event ?hg (N:=3) ?hd (cs:=#[.int .i64 a1_0,.int .i64 a1_1,.int .i64 a1_2]) (t:=27) ?hr ?_;(case hd=>rfl);(case hg=>rfl);(case hr=>first|(go_simp;done)|(go_simp;rfl));intro gb162 hg w12 hbox hb;have BK162:=mk0 (hbox);have GW162:=mk0 ((by rw [hg];exact (kZ HB.out):w.heap.size ≤ gb162));have GE162:=mk0 ((by rw [hg];exact (kZ HB.out):w.heap.size ≤ gb162));replace HB:=mk0 (kS HB.out hb);clear hb hbox hg))
  replace BK162:=mk0 (dB BK162.out)
  replace HB:=mk0 (dZ HB.out)
  refine start_ (n:=9) (S:=fun w'=>True) (ds:=[]) spec_StretchOk.m0 (by kernel_rfl) rfl rfl trivial (fun hHeld=>?_);refine with_tabW spec_StretchOk.tab1 spec_StretchOk.bits1 (fun HT_ HW_=>?_)
  generalize w12.drew = w13 at BK162 HB hHeld ⊢
  refine pure_ (i:=0) (N:=some 5) (v:=?_) (a':=?_) spec_StretchOk.m1 rfl rfl (any_of HT_.out (by kernel_rfl)) (fun _ _ _ h=>h) (Or.inl ⟨by rfl,?_⟩) ?_ ?_
  rotate_left
  ·intro w'
   go_simp
   with_reducible rfl
  rotate_left
  ·simp only [Act.put,sA,sO,sS,i64_w,i32_w]
   rfl
  refine one_ (i:=1) (N:=some 6) spec_StretchOk.m2 rfl rfl (one_of HT_.out (by kernel_rfl)) (by decide) (fun K hK=>?_)
  refine goes_ Try.func36 (by kernel_rfl) rfl #[.slice A0 l0.length c0] (by rfl) rfl rfl (by (try simp only [mA,mC,mN]);first|done|rfl|(simp only [lD,lT];done)|(simp only [lD,lT];rfl)) ?_
  with_reducible refine (spec_TextOk.calls _ _ l0 false _ ?side1 ?side2 A3.out).mono ?_
  (case side1=>exact kC (Kd.C_below HR0.out HB.out))
  (case side2=>exact HC0.out)
  rintro e w' ⟨rfl,⟨nd,rfl⟩⟩
  refine⟨_,rfl,?_⟩
  refine hK.out _ _ trivial (fun hHeld=>?_)
  clear hK K
  refine norm_ (a':=?_) ?_ ?_
  rotate_left
  ·show Act.put _ (some 6) _ = _
   simp only [Act.put,sA,sO,sS,i64_w,i32_w]
   rfl
  refine pure_ (i:=2) (N:=some 7) (v:=?_) (a':=?_) spec_StretchOk.m3 rfl rfl (any_of HT_.out (by kernel_rfl)) (fun _ _ _ h=>h) (Or.inl ⟨by rfl,?_⟩) ?_ ?_
  rotate_left
  ·intro w'
   go_simp
   with_reducible rfl
  rotate_left
  ·simp only [Act.put,sA,sO,sS,i64_w,i32_w]
   rfl
  refine pure_ (i:=3) (N:=some 8) (v:=undef) (a':=?_) spec_StretchOk.m4 rfl rfl (any_of HT_.out (by kernel_rfl)) (fun _ _ _ h=>h) (Or.inr ⟨by rfl,rfl⟩) ?_ ?_
  rotate_left
  ·simp only [Act.put,sA,sO,sS,i64_w,i32_w]
   rfl
  refine pure_ (i:=4) (N:=some 9) (v:=undef) (a':=?_) spec_StretchOk.m10 rfl rfl (any_of HT_.out (by kernel_rfl)) (fun _ _ _ h=>h) (Or.inr ⟨by rfl,rfl⟩) ?_ ?_
  rotate_left
  ·simp only [Act.put,sA,sO,sS,i64_w,i32_w]
   rfl
  refine pure_ (i:=5) (N:=some 10) (v:=undef) (a':=?_) spec_StretchOk.m6 rfl rfl (any_of HT_.out (by kernel_rfl)) (fun _ _ _ h=>h) (Or.inr ⟨by rfl,rfl⟩) ?_ ?_
  rotate_left
  ·simp only [Act.put,sA,sO,sS,i64_w,i32_w]
   rfl
  refine pure_ (i:=6) (N:=some 11) (v:=undef) (a':=?_) spec_StretchOk.m7 rfl rfl (any_of HT_.out (by kernel_rfl)) (fun _ _ _ h=>h) (Or.inr ⟨by rfl,rfl⟩) ?_ ?_
  rotate_left
  ·simp only [Act.put,sA,sO,sS,i64_w,i32_w]
   rfl
  refine pure_ (i:=7) (N:=some 12) (v:=?_) (a':=?_) spec_StretchOk.m8 rfl rfl (any_of HT_.out (by kernel_rfl)) (fun _ _ _ h=>h) (Or.inl ⟨by rfl,?_⟩) ?_ ?_
  rotate_left
  ·intro w'
   go_simp
   with_reducible rfl
  rotate_left
  ·simp only [Act.put,sA,sO,sS,i64_w,i32_w]
   rfl
  refine pure_ (i:=8) (N:=some 4) (v:=?_) (a':=?_) spec_StretchOk.m9 rfl rfl (any_of HT_.out (by kernel_rfl)) (fun _ _ _ h=>h) (Or.inl ⟨by rfl,?_⟩) ?_ ?_
  rotate_left
  ·intro w'
   go_simp
   with_reducible rfl
  rotate_left
  ·simp only [Act.put,sA,sO,sS,i64_w,i32_w]
   rfl
  refine done_ (done_of HT_.out (by kernel_rfl)) ?_
  try go_wp2
  go_ret
  exact⟨by first|rfl|(simp [errW_none,errW_some] <;> rfl)|(simp [*,errW_none,errW_some] <;> rfl),kB HB.out⟩

/-! ### impl_TextOk: function 39 -/
def impl_TextOk.f (l0 : List Int) : Option (Bool) := some (decide ((l0.length : Int) ≤ 300))
set_option maxHeartbeats 8000000 in
set_option maxRecDepth 100000 in
theorem impl_TextOk.calls (A0 : Option Addr) (c0 : Nat) (l0 : List Int) (r : Bool) (w : World) (hr0 : Kd.C (Kd.int .u8) w A0 l0.length l0) (hc0 : l0.length ≤ c0) (h : impl_TextOk.f l0 = some r) :
  Calls Try.prog 39 #[.slice A0 l0.length c0] w fun e w' => e = .returned (.bool r) ∧ Drawn0 w w' := by
 have HR0:=mk0 hr0
 have HC0:=mk0 hc0
 clear hr0 hc0
 have H:(some (decide ((l0.length:Int) ≤ 300))) = some r:=h
 clear h
 obtain rfl:=Option.some.inj H
 go_enter Try.func39,Try.ntmps39
 go_wp2
 go_ret
 exact⟨by first|rfl|(simp;done)|(simp [*];done),by repeat (first|exact Drawn0.refl _|apply Drawn0.step)⟩

/-! ### slices_Min_int_int: function 48 -/
def slices_Min_int_int.l0 : Nat → List Int → Int → Int → Option (Int)
 | 0, _, _, _ => none
 | k + 1, x0, x3, x4 => if x4 < (x0.length : Int) then (if 0 ≤ x4 then (slices_Min_int_int.l0 k x0 (mn x3 (rd x0 x4)) (wrap64 (x4 + 1))) else (none)) else (some x3)
def slices_Min_int_int.f (k : Nat) (l0 : List Int) : Option (Int) := if (l0.length : Int) < 1 then (none) else (if 0 < (l0.length : Int) then (slices_Min_int_int.l0 k l0 (rd l0 0) 1) else (none))
theorem slices_Min_int_int.mono_l : ∀ k, (∀ y0 y1 y2, LeO (slices_Min_int_int.l0 k y0 y1 y2) (slices_Min_int_int.l0 (k + 1) y0 y1 y2))
 | 0 => fun _ _ _ r h => by simp [slices_Min_int_int.l0] at h
 | k + 1 => by
  have ih0 := slices_Min_int_int.mono_l k
  ·intro y0 y1 y2
   unfold slices_Min_int_int.l0
   repeat' first|(with_reducible first|exact ih0 _ _ _|exact LeO.refl _|exact LeO.none _|refine LeO.ite ?_ ?_|refine LeO.bind ?_ (fun _ => ?_))|exact LeO.none _|refine LeO.ite ?_ ?_|refine LeO.bind ?_ (fun _ => ?_)
theorem slices_Min_int_int.mono : ∀ a0 k, LeO (slices_Min_int_int.f k a0) (slices_Min_int_int.f (k + 1) a0) := by
 intro a0 k
 have ih0 := slices_Min_int_int.mono_l k
 unfold slices_Min_int_int.f
 repeat' first|(with_reducible first|exact ih0 _ _ _|exact LeO.refl _|exact LeO.none _|refine LeO.ite ?_ ?_|refine LeO.bind ?_ (fun _ => ?_))|exact LeO.none _|refine LeO.ite ?_ ?_|refine LeO.bind ?_ (fun _ => ?_)
set_option maxHeartbeats 8000000 in
set_option maxRecDepth 100000 in
theorem slices_Min_int_int.calls (k : Nat) (A0 : Option Addr) (c0 : Nat) (l0 : List Int) (r : Int) (w : World) (hr0 : Kd.C (Kd.int .i64) w A0 l0.length l0) (hc0 : l0.length ≤ c0) (h : slices_Min_int_int.f k l0 = some r) :
  Calls Try.prog 48 #[.slice A0 l0.length c0] w fun e w' => e = .returned (.int .i64 r) ∧ Below w.heap.size w w' := by
 have HR0:=mk0 hr0
 have HC0:=mk0 hc0
 clear hr0 hc0
 have HB:=mk0 (Below.refl w.heap.size w)
 have H:(if (l0.length:Int) < 1 then (none) else (if 0 < (l0.length:Int) then (slices_Min_int_int.l0 k l0 (rd l0 0) 1) else (none))) = some r:=h
 clear h
 by_cases c2:(l0.length:Int) < 1
 ·rw [if_pos c2] at H
  exact absurd H (by simp)
 ·rw [if_neg c2] at H
  have c2b0:decide ((l0.length:Int) < 1) = false:=decide_eq_false c2
  have c2b1:decide (l0.length < 1) = false:=decide_eq_false (by omega)
  clear c2
  by_cases c3:0 < (l0.length:Int)
  ·rw [if_pos c3] at H
   have c3b0:decide (0 < (l0.length:Int)) = true:=decide_eq_true c3
   have c3b1:decide (0 < l0.length) = true:=decide_eq_true (by omega)
   clear c3
   have H':=mk0 H
   clear H
   have p168:0 ≤ (0:Int):=(by omega)
   have q168:0 < (l0.length:Int):=of_decide_eq_true (by first|(with_reducible assumption)|assumption)
   obtain⟨ad168,e168,hx168_0⟩:=Kd.at_int HR0.out 0 p168 q168
   cases e168
   have qi168:(0 < l0.length) = True:=eq_true (by omega)
   (try rw [show ((0:Int)).toNat = 0 from rfl] at hx168_0)
   (try rw [Addr.add_zero'] at hx168_0)
   replace p168:=eq_true p168
   replace q168:=eq_true q168
   go_enter Try.func48,Try.ntmps48
   go_wp2
   go_loopg [3,4] k (fun kq v3 v4 w'=>∃ (x3_1:Int) (x4_1:Int),v3 = .int .i64 x3_1 ∧ v4 = .int .i64 x4_1 ∧ Aside0 (slices_Min_int_int.l0 kq l0 x3_1 x4_1 = some r) ∧ Aside0 (kq ≤ k) ∧ Aside0 (Below w.heap.size w w'))
   case atStart=>exact⟨(rd l0 0),(1),(by first|rfl|(simp;done)|(simp [*];done)),(by first|rfl|(simp;done)|(simp [*];done)),H',⟨Nat.le_refl _⟩,⟨kB HB.out⟩⟩
   case round =>
    clear H'
    try clear p1
    try clear q1
    try clear hx1
    try clear qi1
    try clear c2
    try clear c2b0
    try clear c2b1
    try clear p2
    try clear c3
    try clear c3b0
    try clear c3b1
    try clear hx168_0
    try clear p168
    try clear q168
    obtain⟨x3_1,x4_1,rfl,rfl,HA,HK1,HB⟩:=hrel
    cases gk with
    | zero=>exact absurd HA.out (by simp [slices_Min_int_int.l0])
    | succ k1 =>
     have H:=HA.out
     clear HA
     simp only [slices_Min_int_int.l0] at H
     by_cases c4:x4_1 < (l0.length:Int)
     ·rw [if_pos c4] at H
      have c4b0:decide (x4_1 < (l0.length:Int)) = true:=decide_eq_true c4
      clear c4
      by_cases c5:0 ≤ x4_1
      ·rw [if_pos c5] at H
       have c5b0:decide (0 ≤ x4_1) = true:=decide_eq_true c5
       clear c5
       obtain⟨ji6,hji6⟩:∃ j_:Int,(mn x3_1 (rd l0 x4_1)) = j_:=⟨_,rfl⟩
       replace H:(slices_Min_int_int.l0 k1 l0 ji6 (wrap64 (x4_1 + 1))) = some r:=by first|(rw [hji6] at H;exact H)|(simp only [hji6] at H ⊢;exact H)
       have hji6_:(if (rd l0 x4_1) < x3_1 then (rd l0 x4_1) else x3_1) = ji6:=hji6
       have H':=mk0 H
       clear H
       have p169:0 ≤ (x4_1:Int):=of_decide_eq_true (by first|(with_reducible assumption)|assumption)
       have q169:x4_1 < (l0.length:Int):=of_decide_eq_true (by first|(with_reducible assumption)|assumption)
       obtain⟨ad169,e169,hx169_0⟩:=Kd.at_int HR0.out x4_1 p169 q169
       obtain rfl:ad168 = ad169:=(by injection e169)
       replace hx169_0:=(HB.out.cell (World.block_lt_of_cell? w _ hx169_0)).trans hx169_0
       replace p169:=eq_true p169
       replace q169:=eq_true q169
       go_wp2
       go_roundg k1
       case measure=>have:=HK1.out;omega
       case rel=>exact⟨(ji6),(wrap64 (x4_1 + 1)),(by first|rfl|(simp;done)|(simp only [← hji6] <;> (first|rfl|simp))|(simp [*];done)),(by first|rfl|(simp;done)|(simp [*];done)),H',⟨by have:=HK1.out;omega⟩,⟨kB HB.out⟩⟩
      ·rw [if_neg c5] at H
       exact absurd H (by simp)
     ·rw [if_neg c4] at H
      have c4b0:decide (x4_1 < (l0.length:Int)) = false:=decide_eq_false c4
      clear c4
      obtain rfl:=Option.some.inj H
      go_wp2
      go_ret
      exact⟨by first|rfl|(simp [errW_none,errW_some] <;> rfl)|(simp [*,errW_none,errW_some] <;> rfl),kB HB.out⟩
  ·rw [if_neg c3] at H
   exact absurd H (by simp)

/-! ### impl_isRange: function 62 -/
def impl_isRange.f (a0 : Int) (a1 : Int) (a2 : Int) : Option (Bool) := if 0 ≤ a0 then (if a0 ≤ a1 then (some (decide (a1 ≤ a2))) else (some false)) else (some false)
set_option maxHeartbeats 8000000 in
set_option maxRecDepth 100000 in
theorem impl_isRange.calls (a0 : Int) (a1 : Int) (a2 : Int) (r : Bool) (w : World) (h : impl_isRange.f a0 a1 a2 = some r) :
  Calls Try.prog 62 #[.int .i64 a0, .int .i64 a1, .int .i64 a2] w fun e w' => e = .returned (.bool r) ∧ Drawn0 w w' := by
 have H:(if 0 ≤ a0 then (if a0 ≤ a1 then (some (decide (a1 ≤ a2))) else (some false)) else (some false)) = some r:=h
 clear h
 by_cases c4:0 ≤ a0
 ·rw [if_pos c4] at H
  have c4b0:decide (0 ≤ a0) = true:=decide_eq_true c4
  clear c4
  by_cases c5:a0 ≤ a1
  ·rw [if_pos c5] at H
   have c5b0:decide (a0 ≤ a1) = true:=decide_eq_true c5
   clear c5
   obtain rfl:=Option.some.inj H
   go_enter Try.func62,Try.ntmps62
   go_wp2
   go_ret
   exact⟨by first|rfl|(simp;done)|(simp [*];done),by repeat (first|exact Drawn0.refl _|apply Drawn0.step)⟩
  ·rw [if_neg c5] at H
   have c5b0:decide (a0 ≤ a1) = false:=decide_eq_false c5
   clear c5
   obtain rfl:=Option.some.inj H
   go_enter Try.func62,Try.ntmps62
   go_wp2
   go_ret
   exact⟨by first|rfl|(simp;done)|(simp [*];done),by repeat (first|exact Drawn0.refl _|apply Drawn0.step)⟩
 ·rw [if_neg c4] at H
  have c4b0:decide (0 ≤ a0) = false:=decide_eq_false c4
  clear c4
  obtain rfl:=Option.some.inj H
  go_enter Try.func62,Try.ntmps62
  go_wp2
  go_ret
  exact⟨by first|rfl|(simp;done)|(simp [*];done),by repeat (first|exact Drawn0.refl _|apply Drawn0.step)⟩

end Go.Proofs.Ytoinagnieobbpaa.QFnStretchWords
