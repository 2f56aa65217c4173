-- A walk, made by walk.py, a program of this session's.
import Derived.Test.YtoinagnieobbpaaQFnExactStretchKidsx0
import Derived.Test.YtoinagnieobbpaaQFnExactStretchKidsx3
import Derived.Test.YtoinagnieobbpaaQFnExactStretchKidsx4
import Derived.Test.YtoinagnieobbpaaQFnExactStretchKidsx5
namespace Go.Proofs.Ytoinagnieobbpaa.QFnExactStretchKids
open Go.RowKit Go.Proofs.YtoinagnieobbpaaW.PrintWords Go.Proofs.YtoinagnieobbpaaW.PrintLast Go.Proofs.YtoinagnieobbpaaW.PrintMore
attribute [local go_sem] max2_int min2_int max_two min_two max_three min_three max_four min_four   -- for this text's walks alone
set_option linter.unusedVariables false
set_option linter.unusedSimpArgs false

/-! ### spec_LcpRows: function 38 -/
def spec_LcpRows.l0 : Nat → List Int → List Int → Int → List Int → Option (List Int)
 | 0, _, _, _, _ => none
 | k + 1, x0, x4, x5, x7 => if x5 < (x7.length : Int) then (if x5 = 0 then (if x4.length < 17592186044416 then (spec_LcpRows.l0 k x0 (x4 ++ [0]) (wrap64 (x5 + 1)) x7) else (none)) else (if 0 ≤ (wrap64 (x5 - 1)) then (if (wrap64 (x5 - 1)) < (x7.length : Int) then (if 0 ≤ (rd x7 (wrap64 (x5 - 1))) then (if (rd x7 (wrap64 (x5 - 1))) ≤ (x0.length : Int) then (if 0 ≤ x5 then (if 0 ≤ (rd x7 x5) then (if (rd x7 x5) ≤ (x0.length : Int) then ((spec_l05Common.f k (x0.drop ((rd x7 (wrap64 (x5 - 1))) : Int).toNat) (x0.drop ((rd x7 x5) : Int).toNat)).bind fun t180 => (if x4.length < 17592186044416 then (spec_LcpRows.l0 k x0 (x4 ++ [t180]) (wrap64 (x5 + 1)) x7) else (none))) else (none)) else (none)) else (none)) else (none)) else (none)) else (none)) else (none))) else (some x4)
def spec_LcpRows.f (k : Nat) (l0 : List Int) : Option (List Int) := (spec_SuffixRows.f k l0).bind fun t167 => (spec_LcpRows.l0 k l0 (([] : List Int)) 0 t167)
theorem spec_LcpRows.mono_l : ∀ k, (∀ y0 y1 y2 y3, LeO (spec_LcpRows.l0 k y0 y1 y2 y3) (spec_LcpRows.l0 (k + 1) y0 y1 y2 y3))
 | 0 => fun _ _ _ _ r h => by simp [spec_LcpRows.l0] at h
 | k + 1 => by
  have ih0 := spec_LcpRows.mono_l k
  ·intro y0 y1 y2 y3
   unfold spec_LcpRows.l0
   repeat' first|(with_reducible first|exact ih0 _ _ _ _|exact spec_SuffixRows.mono _ _|exact spec_l05Common.mono _ _ _|exact LeO.refl _|exact LeO.none _|refine LeO.ite ?_ ?_|refine LeO.bind ?_ (fun _ => ?_))|exact LeO.none _|refine LeO.ite ?_ ?_|refine LeO.bind ?_ (fun _ => ?_)
theorem spec_LcpRows.mono : ∀ a0 k, LeO (spec_LcpRows.f k a0) (spec_LcpRows.f (k + 1) a0) := by
 intro a0 k
 have ih0 := spec_LcpRows.mono_l k
 unfold spec_LcpRows.f
 repeat' first|(with_reducible first|exact ih0 _ _ _ _|exact spec_SuffixRows.mono _ _|exact spec_l05Common.mono _ _ _|exact LeO.refl _|exact LeO.none _|refine LeO.ite ?_ ?_|refine LeO.bind ?_ (fun _ => ?_))|exact LeO.none _|refine LeO.ite ?_ ?_|refine LeO.bind ?_ (fun _ => ?_)
def spec_LcpRows.T8 : Bool × List (List Nat × List Nat) := (true, [([], []), ([], []), ([], []), ([], []), ([3], [3]), ([2, 4], [2, 4]), ([5], [5]), ([1, 6], [1, 6]), ([], []), ([], []), ([], []), ([9, 10], [9, 10]), ([11], [11]), ([8, 12], [8, 12]), ([7, 13], [7, 13]), ([14], [14]), ([0, 15, 14], [0, 15]), ([16, 16, 0, 1, 2, 3, 4, 5, 6, 7, 8, 9, 10, 11, 12, 13, 14, 15, 16], [0, 16])])
def spec_LcpRows.B8 : List Nat := [0, 0, 0, 0, 8, 28, 60, 126, 0, 0, 0, 1536, 3584, 7936, 16382, 32766, 65535, 131071]
theorem spec_LcpRows.tab8 : rtab .any (opsOf Try.f38 8) = spec_LcpRows.T8 := by kernel_rfl
theorem spec_LcpRows.bits8 : waitsOk spec_LcpRows.T8.2 spec_LcpRows.B8 = true := by kernel_rfl
abbrev spec_LcpRows.m0 : Array Bool := #[F,F,F,F,F,F,F,F,F,F,F,F,F,F,F,F,F,F]
abbrev spec_LcpRows.m1 : Array Bool := #[T,F,F,F,F,F,F,F,F,F,F,F,F,F,F,F,F,F]
abbrev spec_LcpRows.m2 : Array Bool := #[T,T,F,F,F,F,F,F,F,F,F,F,F,F,F,F,F,F]
abbrev spec_LcpRows.m3 : Array Bool := #[T,T,T,F,F,F,F,F,F,F,F,F,F,F,F,F,F,F]
abbrev spec_LcpRows.m4 : Array Bool := #[T,T,T,T,F,F,F,F,F,F,F,F,F,F,F,F,F,F]
abbrev spec_LcpRows.m5 : Array Bool := #[T,T,T,T,T,F,F,F,F,F,F,F,F,F,F,F,F,F]
abbrev spec_LcpRows.m6 : Array Bool := #[T,T,T,T,T,T,F,F,F,F,F,F,F,F,F,F,F,F]
abbrev spec_LcpRows.m7 : Array Bool := #[T,T,T,T,T,T,F,F,T,F,F,F,F,F,F,F,F,F]
abbrev spec_LcpRows.m8 : Array Bool := #[T,T,T,T,T,T,F,F,T,T,F,F,F,F,F,F,F,F]
abbrev spec_LcpRows.m9 : Array Bool := #[T,T,T,T,T,T,F,F,T,T,T,F,F,F,F,F,F,F]
abbrev spec_LcpRows.m10 : Array Bool := #[T,T,T,T,T,T,F,F,T,T,T,T,F,F,F,F,F,F]
abbrev spec_LcpRows.m11 : Array Bool := #[T,T,T,T,T,T,T,F,T,T,T,T,F,F,F,F,F,F]
abbrev spec_LcpRows.m12 : Array Bool := #[T,T,T,T,T,T,T,T,T,T,T,T,F,F,F,F,F,F]
abbrev spec_LcpRows.m13 : Array Bool := #[T,T,T,T,T,T,T,T,T,T,T,T,T,F,F,F,F,F]
abbrev spec_LcpRows.m14 : Array Bool := #[T,T,T,T,T,T,T,T,T,T,T,T,T,T,F,F,F,F]
abbrev spec_LcpRows.m15 : Array Bool := #[T,T,T,T,T,T,T,T,T,T,T,T,T,T,T,F,F,F]
abbrev spec_LcpRows.m16 : Array Bool := #[T,T,T,T,T,T,T,T,T,T,T,T,T,T,T,T,F,F]
abbrev spec_LcpRows.m17 : Array Bool := #[T,T,T,T,T,T,T,T,T,T,T,T,T,T,T,T,T,F]
abbrev spec_LcpRows.m18 : Array Bool := #[T,T,T,T,T,T,T,T,T,T,T,T,T,T,T,T,T,T]
set_option maxHeartbeats 8000000 in
set_option maxRecDepth 100000 in
theorem spec_LcpRows.calls (k : Nat) (A0 : Option Addr) (c0 : Nat) (l0 : List Int) (r : List Int) (w : World) (hr0 : Kd.C (Kd.int .u8) w A0 l0.length l0) (hc0 : l0.length ≤ c0) (h : spec_LcpRows.f k l0 = some r) :
  Calls Try.prog 38 #[.slice A0 l0.length c0] w fun e w' => ∃ v0_ : Value, e = .returned (v0_) ∧ Kd.R (Kd.int .i64) 3 w' w.heap.size (fun _ => True) v0_ r ∧ Below w.heap.size w w' := by
 have HR0:=mk0 hr0
 have HC0:=mk0 hc0
 clear hr0 hc0
 have HB:=mk0 (Below.refl w.heap.size w)
 have H:((spec_SuffixRows.f k l0).bind fun t167=>(spec_LcpRows.l0 k l0 (([]:List Int)) 0 t167)) = some r:=h
 clear h
 replace H:=Option.bind_eq_some_iff.mp H
 obtain⟨t167,A20,H⟩:=H
 replace H:(spec_LcpRows.l0 k l0 (([]:List Int)) 0 t167) = some r:=H
 have A2:=mk0 A20
 clear A20
 obtain⟨y170,hy170⟩:∃ y_:List Int,y_ = (([]:List Int)):=⟨_,rfl⟩
 replace H:(spec_LcpRows.l0 k l0 y170 0 t167) = some r:=by first|(rw [hy170];with_reducible exact H)|(have H2_:=(Option.bind_some _ _).symm.trans H;rw [hy170];with_reducible exact H2_)|(have H2_:=(Option.bind_some _ _).symm.trans H;with_reducible exact H2_)|with_reducible exact H|(rw [hy170];exact H)|exact H
 have Ny170:=mk0 hy170
 clear hy170
 have H':=mk0 H
 clear H
 go_enter Try.func38,Try.ntmps38
 go_wp2_with (first|((with_reducible refine gate_callee (f:=42) rfl ?_);refine goesL_ (some 7) rfl rfl Try.func42 (by kernel_rfl) rfl #[.slice A0 l0.length c0] rfl (by (try simp only [mA,mC,mN]);first|done|rfl|(simp only [List.length_drop,List.length_take];done)|(simp only [List.length_drop,List.length_take];rfl)) ?_;(with_reducible refine (spec_SuffixRows.calls k _ _ l0 t167 _ ?side1 ?side2 A2.out).mono ?_);(case side1=>repeat (first|exact HR0.out|(with_reducible first|apply aC|apply nC|apply dC)));(case side2=>exact HC0.out);rintro e w3 ⟨v168,rfl,ho0,hb⟩;refine⟨_,rfl,?_⟩;have HO169:=mk0 (Kd.R_lower ho0 (kZ HB.out));replace HB:=mk0 (kS HB.out hb);(try clear hb);(try clear ho0))|((with_reducible refine gate_dst (N:=8) rfl ?_);refine Kd.R_lit (Kd.int .i64) _ 3 ?hg (N:=8) ?hd (xs:=([]:List Int)) (inner:=[]) (ok:=fun _=>True) (okp:=fun _=>True) ?hr ?hp (fun _ hk=>hk) trivial (Below.refl _ _) (Nat.le_refl _) (by simp) ?_;(case hd=>rfl);(case hg=>rfl);(case hr=>first|(go_simp;done)|(go_simp;rfl));(case hp=>exact (Reps.none _ _));intro v171 w4 ho5 hb hg_ hnew_;clear hg_ hnew_;(first|rw [← Ny170.out] at ho5|(simp only [Int.reduceToNat] at ho5;rw [← Ny170.out] at ho5));have HO172:=mk0 (Kd.R_lower (Kd.R_new' ho5 (Kd.R_lt (rR HO169.out))) (kZ HB.out));replace HO169:=mk0 (Kd.R_elder' (rR HO169.out) (Kd.R_base ho5) hb);replace HB:=mk0 (kS HB.out hb);clear hb ho5))
 go_loopg [4,5] k (fun kq v4 v5 w'=>∃ (x4_1:List Int) (x5_1:Int),v5 = .int .i64 x5_1 ∧ Aside0 (spec_LcpRows.l0 kq l0 x4_1 x5_1 t167 = some r) ∧ Aside0 (kq ≤ k) ∧ Aside0 (Kd.R (Kd.int .i64) 3 w' w.heap.size (fun k_=>some k_ ≠ (v168:Value).ownBlock) v4 x4_1) ∧ Aside0 (Kd.R (Kd.int .i64) 3 w' w.heap.size (fun k_=>some k_ ≠ (v4:Value).ownBlock) v168 t167) ∧ Aside0 (Below w.heap.size w w'))
 case atStart=>exact⟨(y170),(0),(by first|rfl|(simp;done)|(simp [*];done)),H',⟨Nat.le_refl _⟩,⟨rR (Kd.R_mono HO172.out (fun _ hk=>hk.2))⟩,⟨rR (Kd.R_mono HO169.out (fun _ hk=>hk.2))⟩,⟨kB HB.out⟩⟩
 case round =>
  clear H'
  try clear p2
  try clear c3
  try clear c4
  obtain⟨x4_1,x5_1,rfl,HA,HK1,HO_4,HO_7,HB⟩:=hrel
  cases gk with
  | zero=>exact absurd HA.out (by simp [spec_LcpRows.l0])
  | succ k1 =>
   have H:=HA.out
   clear HA
   simp only [spec_LcpRows.l0] at H
   by_cases c6:x5_1 < (t167.length:Int)
   rotate_left
   ·rw [if_neg c6] at H
    have c6b0:decide (x5_1 < (t167.length:Int)) = false:=decide_eq_false c6
    clear c6
    obtain rfl:=Option.some.inj H
    obtain⟨Ao26,co26,eo26⟩:=Kd.R_slice HO_7.out
    subst eo26
    go_wp2
    go_ret
    exact⟨_,by first|rfl|(simp [errW_none,errW_some] <;> rfl)|(simp [*,errW_none,errW_some] <;> rfl),rR (Kd.R_mono HO_4.out (fun _ hk=>trivial)),kB HB.out⟩

   rw [if_pos c6] at H
   have c6b0:decide (x5_1 < (t167.length:Int)) = true:=decide_eq_true c6
   clear c6
   by_cases c7:x5_1 = 0
   ·rw [if_pos c7] at H
    have c7b0:(x5_1 == 0) = true:=beq_iff_eq.mpr c7
    have c7b1:(x5_1 != 0) = false:=bne_eq_false_iff_eq.mpr c7
    clear c7
    by_cases c8:x4_1.length < 17592186044416
    rotate_left
    ·rw [if_neg c8] at H
     exact absurd H (by simp)
    rw [if_pos c8] at H
    have LMc8:=mk0 c8
    clear c8
    obtain⟨y173,hy173⟩:∃ y_:List Int,y_ = (x4_1 ++ [0]):=⟨_,rfl⟩
    replace H:(spec_LcpRows.l0 k1 l0 y173 (wrap64 (x5_1 + 1)) t167) = some r:=by first|(rw [hy173];with_reducible exact H)|(have H2_:=(Option.bind_some _ _).symm.trans H;rw [hy173];with_reducible exact H2_)|(have H2_:=(Option.bind_some _ _).symm.trans H;with_reducible exact H2_)|with_reducible exact H|(rw [hy173];exact H)|exact H
    have Ny173:=mk0 hy173
    clear hy173
    have H':=mk0 H
    clear H
    obtain⟨Ao9,co9,eo9⟩:=Kd.R_slice HO_7.out
    subst eo9
    go_wp2_with (first|((with_reducible refine gate_builtin (b:=.append) (xs:=#[.tmp 17,.tmp 18]) rfl ?_);at_builtin;refine Kd.R_append (Kd.int .i64) (w0:=w) w.heap.size rfl (.tmp 17) (.tmp 18) 48 3 (.int .i64 0) 8 rfl Try.underlying48 info3 rfl (by decide) (by omega) u4 x4_1 0 [.int .i64 0] (fun k_=>some k_ ≠ (.slice Ao9 t167.length co9:Value).ownBlock) (fun _=>False) rfl rfl ?aP (fun _ hk=>hk.elim) ?aF ?aO ?aB ?aS ?aL ?_;(case aP=>exact rfl);(case aB=>exact (kB HB.out));(case aF=>exact (fun k_ hk=>Kd.fresh' (Kd.R_lt (rR HO_7.out)) k_ hk));(case aO=>exact (rR HO_4.out));(case aS=>exact (kZ HB.out));(case aL=>have:=LMc8.out;omega);intro v174 w10 ho hb hg hat;rw [← Ny173.out] at ho;replace HO_7:=mk0 (Kd.R_after (ok:=(fun _=>True)) (rR (Kd.R_mono HO_7.out (fun _ hk=>⟨trivial,hk⟩))) hg hat);replace HB:=mk0 (hb);have HO175:=mk0 (ho);clear HO_4 ho hb hg hat))
    go_roundg k1
    case measure=>have:=HK1.out;omega
    case rel=>exact⟨(y173),(wrap64 (x5_1 + 1)),(by first|rfl|(simp;done)|(simp [*];done)),H',⟨by have:=HK1.out;omega⟩,⟨rR HO175.out⟩,⟨rR (Kd.R_mono HO_7.out (fun _ hk=>hk.2))⟩,⟨kB HB.out⟩⟩
   rw [if_neg c7] at H
   have c7b0:(x5_1 == 0) = false:=beq_eq_false_iff_ne.mpr c7
   have c7b1:(x5_1 != 0) = true:=bne_iff_ne.mpr c7
   obtain⟨ji11,hji11⟩:∃ j_:Int,(wrap64 (x5_1 - 1)) = j_:=⟨_,rfl⟩
   replace H:(if 0 ≤ (ji11) then (if (ji11) < (t167.length:Int) then (if 0 ≤ (rd t167 (ji11)) then (if (rd t167 (ji11)) ≤ (l0.length:Int) then (if 0 ≤ x5_1 then (if 0 ≤ (rd t167 x5_1) then (if (rd t167 x5_1) ≤ (l0.length:Int) then ((spec_l05Common.f k1 (l0.drop ((rd t167 (ji11)):Int).toNat) (l0.drop ((rd t167 x5_1):Int).toNat)).bind fun t180=>(if x4_1.length < 17592186044416 then (spec_LcpRows.l0 k1 l0 (x4_1 ++ [t180]) (wrap64 (x5_1 + 1)) t167) else (none))) else (none)) else (none)) else (none)) else (none)) else (none)) else (none)) else (none)) = some r:=by first|(rw [hji11] at H;exact H)|(simp only [hji11] at H ⊢;exact H)
   have hji11w:(IntKind.i64.wrap (x5_1 - 1)) = ji11:=(i64_w _).trans hji11
   by_cases c12:0 ≤ (ji11)
   rotate_left
   ·rw [if_neg c12] at H
    exact absurd H (by simp)
   rw [if_pos c12] at H
   have c12b0:decide (0 ≤ (ji11)) = true:=decide_eq_true c12
   clear c12
   by_cases c13:(ji11) < (t167.length:Int)
   rotate_left
   ·rw [if_neg c13] at H
    exact absurd H (by simp)
   rw [if_pos c13] at H
   have c13b0:decide ((ji11) < (t167.length:Int)) = true:=decide_eq_true c13
   clear c13
   by_cases c14:0 ≤ (rd t167 (ji11))
   rotate_left
   ·rw [if_neg c14] at H
    exact absurd H (by simp)
   rw [if_pos c14] at H
   have c14b0:=eq_true c14
   have c14b1:decide (0 ≤ (rd t167 (ji11))) = true:=decide_eq_true c14
   clear c14
   by_cases c15:(rd t167 (ji11)) ≤ (l0.length:Int)
   rotate_left
   ·rw [if_neg c15] at H
    exact absurd H (by simp)
   rw [if_pos c15] at H
   have c15b0:=eq_true c15
   have c15b1:decide ((rd t167 (ji11)) ≤ (l0.length:Int)) = true:=decide_eq_true c15
   clear c15
   by_cases c16:0 ≤ x5_1
   rotate_left
   ·rw [if_neg c16] at H
    exact absurd H (by simp)
   rw [if_pos c16] at H
   have c16b0:decide (0 ≤ x5_1) = true:=decide_eq_true c16
   clear c16
   by_cases c17:0 ≤ (rd t167 x5_1)
   rotate_left
   ·rw [if_neg c17] at H
    exact absurd H (by simp)
   rw [if_pos c17] at H
   have c17b0:=eq_true c17
   have c17b1:decide (0 ≤ (rd t167 x5_1)) = true:=decide_eq_true c17
   clear c17
   by_cases c18:(rd t167 x5_1) ≤ (l0.length:Int)
   rotate_left
   ·rw [if_neg c18] at H
    exact absurd H (by simp)
   rw [if_pos c18] at H
   have c18b0:=eq_true c18
   have c18b1:decide ((rd t167 x5_1) ≤ (l0.length:Int)) = true:=decide_eq_true c18
   clear c18
   replace H:=Option.bind_eq_some_iff.mp H
   obtain⟨t180,A190,H⟩:=H
   replace H:(if x4_1.length < 17592186044416 then (spec_LcpRows.l0 k1 l0 (x4_1 ++ [t180]) (wrap64 (x5_1 + 1)) t167) else (none)) = some r:=H
   have A19:=mk0 A190
   clear A190
   by_cases c20:x4_1.length < 17592186044416
   rotate_left
   ·rw [if_neg c20] at H
    exact absurd H (by simp)
   rw [if_pos c20] at H
   have LMc20:=mk0 c20
   clear c20
   obtain⟨y181,hy181⟩:∃ y_:List Int,y_ = (x4_1 ++ [t180]):=⟨_,rfl⟩
   replace H:(spec_LcpRows.l0 k1 l0 y181 (wrap64 (x5_1 + 1)) t167) = some r:=by first|(rw [hy181];with_reducible exact H)|(have H2_:=(Option.bind_some _ _).symm.trans H;rw [hy181];with_reducible exact H2_)|(have H2_:=(Option.bind_some _ _).symm.trans H;with_reducible exact H2_)|with_reducible exact H|(rw [hy181];exact H)|exact H
   have Ny181:=mk0 hy181
   clear hy181
   have H':=mk0 H
   clear H
   obtain⟨Ao21,co21,eo21⟩:=Kd.R_slice HO_7.out
   subst eo21
   try go_wp2
   replace HO_4:=mk0 (dR HO_4.out)
   replace HO_7:=mk0 (dR HO_7.out)
   replace HB:=mk0 (dZ HB.out)
   have p176:0 ≤ ((ji11):Int):=of_decide_eq_true (by first|(with_reducible assumption)|assumption)
   have q176:(ji11) < (t167.length:Int):=of_decide_eq_true (by first|(with_reducible assumption)|assumption)
   obtain⟨ad176,e176,hx176_0⟩:=Kd.at_int (Kd.R_reads' HO_7.out).2.2 (ji11) p176 q176
   cases e176
   replace p176:=eq_true p176
   replace q176:=eq_true q176
   obtain⟨i023,hi023,_,hsz23,_⟩:=info_parts info5
   obtain⟨A23,hcut23,hA23,hC23⟩:=print_drop_of (P:=Try.prog) (Value.int .u8) 0 22 5 .i64 Try.underlying22 hi023 hsz23 A0 c0 l0 (rd t167 (ji11)) (of_decide_eq_true (by first|(with_reducible assumption)|assumption)) (of_decide_eq_true (by first|(with_reducible assumption)|assumption)) HC0.out
   have HR177:=mk0 (Kd.C_of_reads (h1:=fun _=>rfl) (hA23 _ (Kd.reads_of_C HR0.out)))
   have HC177:=mk0 hC23
   clear hA23 hC23 hi023 hsz23
   have p178:0 ≤ (x5_1:Int):=of_decide_eq_true (by first|(with_reducible assumption)|assumption)
   have q178:x5_1 < (t167.length:Int):=of_decide_eq_true (by first|(with_reducible assumption)|assumption)
   obtain⟨ad178,e178,hx178_0⟩:=Kd.at_int (Kd.R_reads' HO_7.out).2.2 x5_1 p178 q178
   obtain rfl:ad176 = ad178:=(by injection e178)
   replace p178:=eq_true p178
   replace q178:=eq_true q178
   obtain⟨i024,hi024,_,hsz24,_⟩:=info_parts info5
   obtain⟨A24,hcut24,hA24,hC24⟩:=print_drop_of (P:=Try.prog) (Value.int .u8) 0 22 5 .i64 Try.underlying22 hi024 hsz24 A0 c0 l0 (rd t167 x5_1) (of_decide_eq_true (by first|(with_reducible assumption)|assumption)) (of_decide_eq_true (by first|(with_reducible assumption)|assumption)) HC0.out
   have HR179:=mk0 (Kd.C_of_reads (h1:=fun _=>rfl) (hA24 _ (Kd.reads_of_C HR0.out)))
   have HC179:=mk0 hC24
   clear hA24 hC24 hi024 hsz24
   refine start_ (n:=18) (S:=fun w'=>w'.cell? (ad176.add ((ji11)).toNat) = some (.int .i64 (rd t167 (ji11))) ∧ w'.cell? (ad176.add (x5_1).toNat) = some (.int .i64 (rd t167 x5_1))) (ds:=[15,16]) spec_LcpRows.m0 (by kernel_rfl) rfl rfl ⟨hx176_0,hx178_0⟩ (fun hHeld=>?_);refine with_tabW spec_LcpRows.tab8 spec_LcpRows.bits8 (fun HT_ HW_=>?_)
   generalize wr.drew = w22 at HO_4 HO_7 HB HR177 HR179 hx176_0 hx178_0 hHeld ⊢
   refine pure_ (i:=0) (N:=some 20) (v:=?_) (a':=?_) spec_LcpRows.m1 rfl rfl (any_of HT_.out (by kernel_rfl)) (fun _ _ _ h=>h) (Or.inl ⟨by rfl,?_⟩) ?_ ?_
   rotate_left
   ·intro w'
    go_simp
    with_reducible rfl
   rotate_left
   ·simp only [Act.put,sA,sO,sS,i64_w,i32_w]
    rfl
   refine pure_ (i:=1) (N:=some 21) (v:=?_) (a':=?_) spec_LcpRows.m2 rfl rfl (any_of HT_.out (by kernel_rfl)) (fun _ _ _ h=>h) (Or.inl ⟨by rfl,?_⟩) ?_ ?_
   rotate_left
   ·intro w'
    go_simp
    with_reducible rfl
   rotate_left
   ·simp only [Act.put,sA,sO,sS,i64_w,i32_w]
    rfl
   refine pure_ (i:=2) (N:=some 22) (v:=?_) (a':=?_) spec_LcpRows.m3 rfl rfl (any_of HT_.out (by kernel_rfl)) (fun _ _ _ h=>h) (Or.inl ⟨by rfl,?_⟩) ?_ ?_
   rotate_left
   ·intro w'
    go_simp
    with_reducible rfl
   rotate_left
   ·simp only [Act.put,sA,sO,sS,i64_w,i32_w]
    rfl
   refine pure_ (i:=3) (N:=some 23) (v:=?_) (a':=?_) spec_LcpRows.m4 rfl rfl (any_of HT_.out (by kernel_rfl)) (fun _ _ _ h=>h) (Or.inl ⟨by rfl,?_⟩) ?_ ?_
   rotate_left
   ·intro w'
    go_simp
    with_reducible rfl
   rotate_left
   ·simp only [Act.put,sA,sO,sS,i64_w,i32_w]
    rfl
   refine pure_ (i:=4) (N:=some 24) (v:=?_) (a':=?_) spec_LcpRows.m5 rfl rfl (any_of HT_.out (by kernel_rfl)) (fun _ _ _ h=>h) (Or.inl ⟨by rfl,?_⟩) ?_ ?_
   rotate_left
   ·intro w'
    go_simp
    with_reducible rfl
   rotate_left
   ·simp only [Act.put,sA,sO,sS,i64_w,i32_w]
    rfl
   refine pure_ (i:=5) (N:=some 25) (v:=?_) (a':=?_) spec_LcpRows.m6 rfl rfl (any_of HT_.out (by kernel_rfl)) (fun _ _ _ h=>h) (Or.inl ⟨by rfl,?_⟩) ?_ ?_
   rotate_left
   ·intro w'
    go_simp
    with_reducible rfl
   rotate_left
   ·simp only [Act.put,sA,sO,sS,i64_w,i32_w]
    rfl
   refine pure_ (i:=8) (N:=some 28) (v:=?_) (a':=?_) spec_LcpRows.m7 rfl rfl (any_of HT_.out (by kernel_rfl)) (fun _ _ _ h=>h) (Or.inl ⟨by rfl,?_⟩) ?_ ?_
   rotate_left
   ·intro w'
    go_simp
    with_reducible rfl
   rotate_left
   ·simp only [Act.put,sA,sO,sS,i64_w,i32_w]
    rfl
   refine pure_ (i:=9) (N:=some 29) (v:=?_) (a':=?_) spec_LcpRows.m8 rfl rfl (any_of HT_.out (by kernel_rfl)) (fun _ _ _ h=>h) (Or.inl ⟨by rfl,?_⟩) ?_ ?_
   rotate_left
   ·intro w'
    go_simp
    with_reducible rfl
   rotate_left
   ·simp only [Act.put,sA,sO,sS,i64_w,i32_w]
    rfl
   refine pure_ (i:=10) (N:=some 30) (v:=?_) (a':=?_) spec_LcpRows.m9 rfl rfl (any_of HT_.out (by kernel_rfl)) (fun _ _ _ h=>h) (Or.inl ⟨by rfl,?_⟩) ?_ ?_
   rotate_left
   ·intro w'
    go_simp
    with_reducible rfl
   rotate_left
   ·simp only [Act.put,sA,sO,sS,i64_w,i32_w]
    rfl
   refine pure_ (i:=11) (N:=some 31) (v:=?_) (a':=?_) spec_LcpRows.m10 rfl rfl (any_of HT_.out (by kernel_rfl)) (fun _ _ _ h=>h) (Or.inl ⟨by rfl,?_⟩) ?_ ?_
   rotate_left
   ·intro w'
    go_simp
    with_reducible rfl
   rotate_left
   ·simp only [Act.put,sA,sO,sS,i64_w,i32_w]
    rfl
   refine take_ (i:=6) (N:=some 26) (v:=?_) (a':=?_) spec_LcpRows.m11 rfl rfl (take_ofW HT_.out HW_.out (by kernel_rfl)) (fun _ _ _ h=>h) (Or.inl ⟨by rfl,?_⟩) hHeld ?_ ?_
   rotate_left
   ·rintro w' ⟨s0,s1⟩
    go_simp
    with_reducible rfl
   rotate_left
   ·simp only [Act.put,sA,sO,sS,i64_w,i32_w]
    rfl
   refine pure_ (i:=7) (N:=some 27) (v:=?_) (a':=?_) spec_LcpRows.m12 rfl rfl (any_of HT_.out (by kernel_rfl)) (fun _ _ _ h=>h) (Or.inl ⟨by rfl,?_⟩) ?_ ?_
   rotate_left
   ·intro w'
    go_simp
    with_reducible rfl
   rotate_left
   ·simp only [Act.put,sA,sO,sS,i64_w,i32_w]
    rfl
   refine take_ (i:=12) (N:=some 32) (v:=?_) (a':=?_) spec_LcpRows.m13 rfl rfl (take_ofW HT_.out HW_.out (by kernel_rfl)) (fun _ _ _ h=>h) (Or.inl ⟨by rfl,?_⟩) hHeld ?_ ?_
   rotate_left
   ·rintro w' ⟨s0,s1⟩
    go_simp
    with_reducible rfl
   rotate_left
   ·simp only [Act.put,sA,sO,sS,i64_w,i32_w]
    rfl
   refine pure_ (i:=13) (N:=some 33) (v:=?_) (a':=?_) spec_LcpRows.m14 rfl rfl (any_of HT_.out (by kernel_rfl)) (fun _ _ _ h=>h) (Or.inl ⟨by rfl,?_⟩) ?_ ?_
   rotate_left
   ·intro w'
    go_simp
    with_reducible rfl
   rotate_left
   ·simp only [Act.put,sA,sO,sS,i64_w,i32_w]
    rfl
   refine one_ (i:=14) (N:=some 34) spec_LcpRows.m15 rfl rfl (one_of HT_.out (by kernel_rfl)) (by decide) (fun K hK=>?_)
   refine goes_ Try.func49 (by kernel_rfl) rfl #[.slice A23 (l0.drop ((rd t167 (ji11)):Int).toNat).length (c0 - (rd t167 (ji11)).toNat),.slice A24 (l0.drop ((rd t167 x5_1):Int).toNat).length (c0 - (rd t167 x5_1).toNat)] (by rfl) rfl rfl (by (try simp only [mA,mC,mN]);first|done|(rw [show (l0.drop ((rd t167 (ji11)):Int).toNat).length = (l0.length - (rd t167 (ji11)).toNat) from List.length_drop] <;> rfl)|(rw [show (l0.drop ((rd t167 x5_1):Int).toNat).length = (l0.length - (rd t167 x5_1).toNat) from List.length_drop] <;> rfl)|(simp only [hji11];rfl)|rfl|(simp only [List.length_drop,List.length_take];done)|(simp only [List.length_drop,List.length_take];rfl)) ?_
   with_reducible refine (spec_l05Common.calls k1 _ _ (l0.drop ((rd t167 (ji11)):Int).toNat) _ _ (l0.drop ((rd t167 x5_1):Int).toNat) t180 _ ?side1 ?side2 ?side3 ?side4 A19.out).mono ?_
   (case side1=>exact kC (Kd.C_below HR177.out HB.out))
   (case side2=>exact HC177.out)
   (case side3=>exact kC (Kd.C_below HR179.out HB.out))
   (case side4=>exact HC179.out)
   rintro e w' ⟨rfl,⟨nd,rfl⟩⟩
   refine⟨_,rfl,?_⟩
   refine hK.out _ _ ⟨hHeld.1,hHeld.2⟩ (fun hHeld=>?_)
   clear hK K
   refine norm_ (a':=?_) ?_ ?_
   rotate_left
   ·show Act.put _ (some 34) _ = _
    simp only [Act.put,sA,sO,sS,i64_w,i32_w]
    rfl
   refine last_ (i:=15) (N:=some 35) spec_LcpRows.m16 rfl rfl (one_of HT_.out (by kernel_rfl)) (by decide) (fun K hK=>?_)
   refine value_ (w1:=?_) (v:=?_) (by rfl) rfl ?_ ?_
   rotate_left 2
   ·go_simp
    constructor
    ·rfl
    ·rfl
   refine hK.out _ _ ?_
   clear hK K
   refine norm_ (a':=?_) ?_ ?_
   rotate_left
   ·show Act.put _ (some 35) _ = _
    simp only [Act.put,sA,sO,sS,i64_w,i32_w]
    rfl
   refine last_ (i:=16) (N:=some 36) spec_LcpRows.m17 rfl rfl (one_of HT_.out (by kernel_rfl)) (by decide) (fun K hK=>?_)
   refine Kd.R_append_step (Kd.int .i64) (w0:=w) w.heap.size (by rfl) (.tmp 20) (.tmp 35) 48 3 (.int .i64 0) 8 rfl Try.underlying48 info3 rfl (by decide) (by omega) u4 x4_1 t180 [.int .i64 t180] (fun k_=>some k_ ≠ (.slice (some ad176) t167.length co21:Value).ownBlock) (fun _=>False) rfl rfl ?aP (fun _ hk=>hk.elim) ?aF ?aO ?aB ?aS ?aL ?_
   (case aP=>exact rfl)
   (case aB=>exact (kB HB.out))
   (case aF=>exact (fun k_ hk=>Kd.fresh' (Kd.R_lt (rR HO_7.out)) k_ hk))
   (case aO=>exact (rR HO_4.out))
   (case aS=>exact (kZ HB.out))
   (case aL=>have:=LMc20.out;omega)
   intro v182 w25 ho hb hg hat
   rw [← Ny181.out] at ho
   replace HO_7:=mk0 (Kd.R_after (ok:=(fun _=>True)) (rR (Kd.R_mono HO_7.out (fun _ hk=>⟨trivial,hk⟩))) hg hat)
   replace HB:=mk0 (hb)
   have HO183:=mk0 (ho)
   clear HO_4
   clear ho hb hg hat
   refine hK.out _ _ ?_
   clear hK K
   refine norm_ (a':=?_) ?_ ?_
   rotate_left
   ·show Act.put _ (some 36) _ = _
    simp only [Act.put,sA,sO,sS,i64_w,i32_w]
    rfl
   refine pure_ (i:=17) (N:=some 4) (v:=?_) (a':=?_) spec_LcpRows.m18 rfl rfl (any_of HT_.out (by kernel_rfl)) (fun _ _ _ h=>h) (Or.inl ⟨by rfl,?_⟩) ?_ ?_
   rotate_left
   ·intro w'
    go_simp
    with_reducible rfl
   rotate_left
   ·simp only [Act.put,sA,sO,sS,i64_w,i32_w]
    rfl
   refine done_ (done_of HT_.out (by kernel_rfl)) ?_
   try go_wp2
   go_roundg k1
   case measure=>have:=HK1.out;omega
   case rel=>exact⟨(y181),(wrap64 (x5_1 + 1)),(by first|rfl|(simp;done)|(simp [*];done)),H',⟨by have:=HK1.out;omega⟩,⟨rR HO183.out⟩,⟨rR (Kd.R_mono HO_7.out (fun _ hk=>hk.2))⟩,⟨kB HB.out⟩⟩
/-! ### spec_StretchOk: function 11 -/
def spec_StretchOk.f (k : Nat) (l0 : List Int) (a1_0 : Int) (a1_1 : Int) (a1_2 : Int) : Option (Bool) := (spec_TextOk.f l0).bind fun t185 => (if t185 = true then ((spec_LcpRows.f k l0).bind fun t186 => ((spec_l11Ok.f k t186 a1_0 a1_1 a1_2).bind fun t189 => (some t189))) else (some false))
theorem spec_StretchOk.mono : ∀ a0 a1 a2 a3 k, LeO (spec_StretchOk.f k a0 a1 a2 a3) (spec_StretchOk.f (k + 1) a0 a1 a2 a3) := by
 intro a0 a1 a2 a3 k
 unfold spec_StretchOk.f
 repeat' first|(with_reducible first|exact spec_LcpRows.mono _ _|exact spec_l11Ok.mono _ _ _ _ _|exact LeO.refl _|exact LeO.none _|refine LeO.ite ?_ ?_|refine LeO.bind ?_ (fun _ => ?_))|exact LeO.none _|refine LeO.ite ?_ ?_|refine LeO.bind ?_ (fun _ => ?_)
def spec_StretchOk.T1 : Bool × List (List Nat × List Nat) := (true, [([], []), ([0], [0]), ([1, 1], [1]), ([2], [2]), ([3, 2, 2], [2, 3]), ([2], [2]), ([4, 5, 4, 2], [2, 4, 5]), ([2, 6], [2, 6]), ([7, 6, 0, 1, 2, 3, 4, 5, 6, 7], [7])])
def spec_StretchOk.B1 : List Nat := [0, 1, 3, 7, 15, 7, 63, 127, 255]
theorem spec_StretchOk.tab1 : rtab .any (opsOf Try.f11 1) = spec_StretchOk.T1 := by kernel_rfl
theorem spec_StretchOk.bits1 : waitsOk spec_StretchOk.T1.2 spec_StretchOk.B1 = true := by kernel_rfl
abbrev spec_StretchOk.m0 : Array Bool := #[F,F,F,F,F,F,F,F,F]
abbrev spec_StretchOk.m1 : Array Bool := #[T,F,F,F,F,F,F,F,F]
abbrev spec_StretchOk.m2 : Array Bool := #[T,T,F,F,F,F,F,F,F]
abbrev spec_StretchOk.m3 : Array Bool := #[T,T,T,F,F,F,F,F,F]
abbrev spec_StretchOk.m4 : Array Bool := #[T,T,T,T,F,F,F,F,F]
abbrev spec_StretchOk.m5 : Array Bool := #[T,T,T,T,F,T,F,F,F]
abbrev spec_StretchOk.m6 : Array Bool := #[T,T,T,T,T,T,F,F,F]
abbrev spec_StretchOk.m7 : Array Bool := #[T,T,T,T,T,T,T,F,F]
abbrev spec_StretchOk.m8 : Array Bool := #[T,T,T,T,T,T,T,T,F]
abbrev spec_StretchOk.m9 : Array Bool := #[T,T,T,T,T,T,T,T,T]
abbrev spec_StretchOk.m10 : Array Bool := #[T,T,T,T,T,F,F,F,F]
set_option maxHeartbeats 8000000 in
set_option maxRecDepth 100000 in
theorem spec_StretchOk.calls (k : Nat) (A0 : Option Addr) (c0 : Nat) (l0 : List Int) (a1_0 : Int) (a1_1 : Int) (a1_2 : Int) (r : Bool) (w : World) (hr0 : Kd.C (Kd.int .u8) w A0 l0.length l0) (hc0 : l0.length ≤ c0) (h : spec_StretchOk.f k l0 a1_0 a1_1 a1_2 = some r) :
  Calls Try.prog 11 #[.slice A0 l0.length c0, .agg #[.int .i64 a1_0, .int .i64 a1_1, .int .i64 a1_2]] w fun e w' => e = .returned (.bool r) ∧ Below w.heap.size w w' := by
 have hu27:=Try.underlying27
 have HR0:=mk0 hr0
 have HC0:=mk0 hc0
 clear hr0 hc0
 have HB:=mk0 (Below.refl w.heap.size w)
 have H:((spec_TextOk.f l0).bind fun t185=>(if t185 = true then ((spec_LcpRows.f k l0).bind fun t186=>((spec_l11Ok.f k t186 a1_0 a1_1 a1_2).bind fun t189=>(some t189))) else (some false))) = some r:=h
 clear h
 replace H:=Option.bind_eq_some_iff.mp H
 obtain⟨t185,A30,H⟩:=H
 replace H:(if t185 = true then ((spec_LcpRows.f k l0).bind fun t186=>((spec_l11Ok.f k t186 a1_0 a1_1 a1_2).bind fun t189=>(some t189))) else (some false)) = some r:=H
 have A3:=mk0 A30
 clear A30
 by_cases c4:t185 = true
 ·subst c4
  have H1:((spec_LcpRows.f k l0).bind fun t186=>((spec_l11Ok.f k t186 a1_0 a1_1 a1_2).bind fun t189=>(some t189))) = some r:=by rw [if_pos rfl] at H;exact H
  clear H
  have H:=H1
  clear H1
  replace H:=Option.bind_eq_some_iff.mp H
  obtain⟨t186,A50,H⟩:=H
  replace H:((spec_l11Ok.f k t186 a1_0 a1_1 a1_2).bind fun t189=>(some t189)) = some r:=H
  have A5:=mk0 A50
  clear A50
  replace H:=Option.bind_eq_some_iff.mp H
  obtain⟨t189,A60,H⟩:=H
  replace H:(some t189) = some r:=H
  have A6:=mk0 A60
  clear A60
  obtain rfl:=Option.some.inj H
  go_enter Try.func11,Try.ntmps11
  try go_wp2_with (first|((with_reducible refine gate_dst (N:=3) rfl ?_);refine box_event ?hg (N:=3) ?hd (cs:=#[.int .i64 a1_0,.int .i64 a1_1,.int .i64 a1_2]) (t:=27) ?hr ?_;(case hd=>rfl);(case hg=>rfl);(case hr=>first|(go_simp;done)|(go_simp;rfl));intro gb184 hg w7 hbox hb;have BK184:=mk0 (hbox);have GW184:=mk0 ((by rw [hg];exact (kZ HB.out):w.heap.size ≤ gb184));have GE184:=mk0 ((by rw [hg];exact (kZ HB.out):w.heap.size ≤ gb184));replace HB:=mk0 (kS HB.out hb);clear hb hbox hg))
  replace BK184:=mk0 (dB BK184.out)
  replace HB:=mk0 (dZ HB.out)
  refine start_ (n:=9) (S:=fun w'=>w'.cell? ⟨gb184,0,none⟩ = some (.int .i64 a1_0) ∧ w'.cell? ⟨gb184,1,none⟩ = some (.int .i64 a1_1) ∧ w'.cell? ⟨gb184,2,none⟩ = some (.int .i64 a1_2)) (ds:=[]) spec_StretchOk.m0 (by kernel_rfl) rfl rfl (ck3 BK184.out) (fun hHeld=>?_);refine with_tabW spec_StretchOk.tab1 spec_StretchOk.bits1 (fun HT_ HW_=>?_)
  generalize w7.drew = w8 at BK184 HB hHeld ⊢
  refine pure_ (i:=0) (N:=some 5) (v:=?_) (a':=?_) spec_StretchOk.m1 rfl rfl (any_of HT_.out (by kernel_rfl)) (fun _ _ _ h=>h) (Or.inl ⟨by rfl,?_⟩) ?_ ?_
  rotate_left
  ·intro w'
   go_simp
   with_reducible rfl
  rotate_left
  ·simp only [Act.put,sA,sO,sS,i64_w,i32_w]
   rfl
  refine one_ (i:=1) (N:=some 6) spec_StretchOk.m2 rfl rfl (one_of HT_.out (by kernel_rfl)) (by decide) (fun K hK=>?_)
  refine goes_ Try.func36 (by kernel_rfl) rfl #[.slice A0 l0.length c0] (by rfl) rfl rfl (by (try simp only [mA,mC,mN]);first|done|rfl|(simp only [List.length_drop,List.length_take];done)|(simp only [List.length_drop,List.length_take];rfl)) ?_
  with_reducible refine (spec_TextOk.calls _ _ l0 true _ ?side1 ?side2 A3.out).mono ?_
  (case side1=>exact kC (Kd.C_below HR0.out HB.out))
  (case side2=>exact HC0.out)
  rintro e w' ⟨rfl,⟨nd,rfl⟩⟩
  refine⟨_,rfl,?_⟩
  refine hK.out _ _ (ck3 BK184.out) (fun hHeld=>?_)
  clear hK K
  refine norm_ (a':=?_) ?_ ?_
  rotate_left
  ·show Act.put _ (some 6) _ = _
   simp only [Act.put,sA,sO,sS,i64_w,i32_w]
   rfl
  refine pure_ (i:=2) (N:=some 7) (v:=?_) (a':=?_) spec_StretchOk.m3 rfl rfl (any_of HT_.out (by kernel_rfl)) (fun _ _ _ h=>h) (Or.inl ⟨by rfl,?_⟩) ?_ ?_
  rotate_left
  ·intro w'
   go_simp
   with_reducible rfl
  rotate_left
  ·simp only [Act.put,sA,sO,sS,i64_w,i32_w]
   rfl
  refine pure_ (i:=3) (N:=some 8) (v:=?_) (a':=?_) spec_StretchOk.m4 rfl rfl (any_of HT_.out (by kernel_rfl)) (fun _ _ _ h=>h) (Or.inl ⟨by rfl,?_⟩) ?_ ?_
  rotate_left
  ·intro w'
   go_simp
   with_reducible rfl
  rotate_left
  ·simp only [Act.put,sA,sO,sS,i64_w,i32_w]
   rfl
  refine take_ (i:=5) (N:=some 10) (v:=?_) (a':=?_) spec_StretchOk.m5 rfl rfl (take_ofW HT_.out HW_.out (by kernel_rfl)) (fun _ _ _ h=>h) (Or.inl ⟨by rfl,?_⟩) hHeld ?_ ?_
  rotate_left
  ·rintro w' ⟨s0,s1,s2⟩
   go_simp
   with_reducible rfl
  rotate_left
  ·simp only [Act.put,sA,sO,sS,i64_w,i32_w]
   rfl
  refine one_ (i:=4) (N:=some 9) spec_StretchOk.m6 rfl rfl (one_of HT_.out (by kernel_rfl)) (by decide) (fun K hK=>?_)
  refine goes_ Try.func38 (by kernel_rfl) rfl #[.slice A0 l0.length c0] (by rfl) rfl rfl (by (try simp only [mA,mC,mN]);first|done|rfl|(simp only [List.length_drop,List.length_take];done)|(simp only [List.length_drop,List.length_take];rfl)) ?_
  with_reducible refine (spec_LcpRows.calls k _ _ l0 t186 _ ?side1 ?side2 A5.out).mono ?_
  (case side1=>repeat (first|exact (Kd.C_below HR0.out (kB HB.out))|(with_reducible first|apply aC|apply nC|apply dC)))
  (case side2=>exact HC0.out)
  rintro e w9 ⟨v187,rfl,ho0,hb⟩
  refine⟨_,rfl,?_⟩
  have HO188:=mk0 (Kd.R_lower ho0 (kZ HB.out))
  replace BK184:=mk0 (kK BK184.out hb)
  replace HB:=mk0 (kS HB.out hb)
  (try clear hb)
  (try clear ho0)
  obtain⟨Ao10,co10,eo10⟩:=Kd.R_slice HO188.out
  (first|subst eo10|(injection eo10 with f1_ f2_ f3_;have f4_:=f1_.symm;have f5_:=f3_.symm;clear f1_ f2_ f3_;subst f4_;subst f5_))
  refine hK.out _ _ (ck3 BK184.out) (fun hHeld=>?_)
  clear hK K
  refine norm_ (a':=?_) ?_ ?_
  rotate_left
  ·show Act.put _ (some 9) _ = _
   simp only [Act.put,sA,sO,sS,i64_w,i32_w]
   rfl
  refine one_ (i:=6) (N:=some 11) spec_StretchOk.m7 rfl rfl (one_of HT_.out (by kernel_rfl)) (by decide) (fun K hK=>?_)
  refine goes_ Try.func37 (by kernel_rfl) rfl #[.slice Ao10 t186.length co10,.agg #[.int .i64 a1_0,.int .i64 a1_1,.int .i64 a1_2]] (by rfl) rfl rfl (by (try simp only [mA,mC,mN]);first|done|rfl|(simp only [List.length_drop,List.length_take];done)|(simp only [List.length_drop,List.length_take];rfl)) ?_
  with_reducible refine (spec_l11Ok.calls k _ _ t186 a1_0 a1_1 a1_2 t189 _ ?side1 ?side2 A6.out).mono ?_
  (case side1=>exact kC (Kd.R_reads' HO188.out).2.2)
  (case side2=>exact (Kd.R_reads' HO188.out).2.1)
  rintro e w11 ⟨rfl,hb⟩
  refine⟨_,rfl,?_⟩
  replace HO188:=mk0 (bR HO188.out hb)
  replace BK184:=mk0 (kK BK184.out hb)
  replace HB:=mk0 (kS HB.out hb)
  (try clear hb)
  refine hK.out _ _ (ck3 BK184.out) (fun hHeld=>?_)
  clear hK K
  refine norm_ (a':=?_) ?_ ?_
  rotate_left
  ·show Act.put _ (some 11) _ = _
   simp only [Act.put,sA,sO,sS,i64_w,i32_w]
   rfl
  refine pure_ (i:=7) (N:=some 12) (v:=?_) (a':=?_) spec_StretchOk.m8 rfl rfl (any_of HT_.out (by kernel_rfl)) (fun _ _ _ h=>h) (Or.inl ⟨by rfl,?_⟩) ?_ ?_
  rotate_left
  ·intro w'
   go_simp
   with_reducible rfl
  rotate_left
  ·simp only [Act.put,sA,sO,sS,i64_w,i32_w]
   rfl
  refine pure_ (i:=8) (N:=some 4) (v:=?_) (a':=?_) spec_StretchOk.m9 rfl rfl (any_of HT_.out (by kernel_rfl)) (fun _ _ _ h=>h) (Or.inl ⟨by rfl,?_⟩) ?_ ?_
  rotate_left
  ·intro w'
   go_simp
   with_reducible rfl
  rotate_left
  ·simp only [Act.put,sA,sO,sS,i64_w,i32_w]
   rfl
  refine done_ (done_of HT_.out (by kernel_rfl)) ?_
  try go_wp2
  go_ret
  exact⟨by first|rfl|(simp [errW_none,errW_some] <;> rfl)|(simp [*,errW_none,errW_some] <;> rfl),kB HB.out⟩
 ·replace c4:=Bool.eq_false_iff.mpr c4
  subst c4
  have H1:(some false) = some r:=by rw [if_neg (show ¬ (false = true) by decide)] at H;exact H
  clear H
  have H:=H1
  clear H1
  obtain rfl:=Option.some.inj H
  go_enter Try.func11,Try.ntmps11
  try go_wp2_with (first|((with_reducible refine gate_dst (N:=3) rfl ?_);refine box_event ?hg (N:=3) ?hd (cs:=#[.int .i64 a1_0,.int .i64 a1_1,.int .i64 a1_2]) (t:=27) ?hr ?_;(case hd=>rfl);(case hg=>rfl);(case hr=>first|(go_simp;done)|(go_simp;rfl));intro gb184 hg w12 hbox hb;have BK184:=mk0 (hbox);have GW184:=mk0 ((by rw [hg];exact (kZ HB.out):w.heap.size ≤ gb184));have GE184:=mk0 ((by rw [hg];exact (kZ HB.out):w.heap.size ≤ gb184));replace HB:=mk0 (kS HB.out hb);clear hb hbox hg))
  replace BK184:=mk0 (dB BK184.out)
  replace HB:=mk0 (dZ HB.out)
  refine start_ (n:=9) (S:=fun w'=>True) (ds:=[]) spec_StretchOk.m0 (by kernel_rfl) rfl rfl trivial (fun hHeld=>?_);refine with_tabW spec_StretchOk.tab1 spec_StretchOk.bits1 (fun HT_ HW_=>?_)
  generalize w12.drew = w13 at BK184 HB hHeld ⊢
  refine pure_ (i:=0) (N:=some 5) (v:=?_) (a':=?_) spec_StretchOk.m1 rfl rfl (any_of HT_.out (by kernel_rfl)) (fun _ _ _ h=>h) (Or.inl ⟨by rfl,?_⟩) ?_ ?_
  rotate_left
  ·intro w'
   go_simp
   with_reducible rfl
  rotate_left
  ·simp only [Act.put,sA,sO,sS,i64_w,i32_w]
   rfl
  refine one_ (i:=1) (N:=some 6) spec_StretchOk.m2 rfl rfl (one_of HT_.out (by kernel_rfl)) (by decide) (fun K hK=>?_)
  refine goes_ Try.func36 (by kernel_rfl) rfl #[.slice A0 l0.length c0] (by rfl) rfl rfl (by (try simp only [mA,mC,mN]);first|done|rfl|(simp only [List.length_drop,List.length_take];done)|(simp only [List.length_drop,List.length_take];rfl)) ?_
  with_reducible refine (spec_TextOk.calls _ _ l0 false _ ?side1 ?side2 A3.out).mono ?_
  (case side1=>exact kC (Kd.C_below HR0.out HB.out))
  (case side2=>exact HC0.out)
  rintro e w' ⟨rfl,⟨nd,rfl⟩⟩
  refine⟨_,rfl,?_⟩
  refine hK.out _ _ trivial (fun hHeld=>?_)
  clear hK K
  refine norm_ (a':=?_) ?_ ?_
  rotate_left
  ·show Act.put _ (some 6) _ = _
   simp only [Act.put,sA,sO,sS,i64_w,i32_w]
   rfl
  refine pure_ (i:=2) (N:=some 7) (v:=?_) (a':=?_) spec_StretchOk.m3 rfl rfl (any_of HT_.out (by kernel_rfl)) (fun _ _ _ h=>h) (Or.inl ⟨by rfl,?_⟩) ?_ ?_
  rotate_left
  ·intro w'
   go_simp
   with_reducible rfl
  rotate_left
  ·simp only [Act.put,sA,sO,sS,i64_w,i32_w]
   rfl
  refine pure_ (i:=3) (N:=some 8) (v:=undef) (a':=?_) spec_StretchOk.m4 rfl rfl (any_of HT_.out (by kernel_rfl)) (fun _ _ _ h=>h) (Or.inr ⟨by rfl,rfl⟩) ?_ ?_
  rotate_left
  ·simp only [Act.put,sA,sO,sS,i64_w,i32_w]
   rfl
  refine pure_ (i:=4) (N:=some 9) (v:=undef) (a':=?_) spec_StretchOk.m10 rfl rfl (any_of HT_.out (by kernel_rfl)) (fun _ _ _ h=>h) (Or.inr ⟨by rfl,rfl⟩) ?_ ?_
  rotate_left
  ·simp only [Act.put,sA,sO,sS,i64_w,i32_w]
   rfl
  refine pure_ (i:=5) (N:=some 10) (v:=undef) (a':=?_) spec_StretchOk.m6 rfl rfl (any_of HT_.out (by kernel_rfl)) (fun _ _ _ h=>h) (Or.inr ⟨by rfl,rfl⟩) ?_ ?_
  rotate_left
  ·simp only [Act.put,sA,sO,sS,i64_w,i32_w]
   rfl
  refine pure_ (i:=6) (N:=some 11) (v:=undef) (a':=?_) spec_StretchOk.m7 rfl rfl (any_of HT_.out (by kernel_rfl)) (fun _ _ _ h=>h) (Or.inr ⟨by rfl,rfl⟩) ?_ ?_
  rotate_left
  ·simp only [Act.put,sA,sO,sS,i64_w,i32_w]
   rfl
  refine pure_ (i:=7) (N:=some 12) (v:=?_) (a':=?_) spec_StretchOk.m8 rfl rfl (any_of HT_.out (by kernel_rfl)) (fun _ _ _ h=>h) (Or.inl ⟨by rfl,?_⟩) ?_ ?_
  rotate_left
  ·intro w'
   go_simp
   with_reducible rfl
  rotate_left
  ·simp only [Act.put,sA,sO,sS,i64_w,i32_w]
   rfl
  refine pure_ (i:=8) (N:=some 4) (v:=?_) (a':=?_) spec_StretchOk.m9 rfl rfl (any_of HT_.out (by kernel_rfl)) (fun _ _ _ h=>h) (Or.inl ⟨by rfl,?_⟩) ?_ ?_
  rotate_left
  ·intro w'
   go_simp
   with_reducible rfl
  rotate_left
  ·simp only [Act.put,sA,sO,sS,i64_w,i32_w]
   rfl
  refine done_ (done_of HT_.out (by kernel_rfl)) ?_
  try go_wp2
  go_ret
  exact⟨by first|rfl|(simp [errW_none,errW_some] <;> rfl)|(simp [*,errW_none,errW_some] <;> rfl),kB HB.out⟩

end Go.Proofs.Ytoinagnieobbpaa.QFnExactStretchKids
