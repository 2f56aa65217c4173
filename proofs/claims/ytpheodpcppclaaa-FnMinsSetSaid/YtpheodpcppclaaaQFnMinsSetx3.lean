-- A walk, made by walk.py, a program of this session's.
import Derived.Test.YtpheodpcppclaaaQFnMinsSetx0
import Derived.Test.YtpheodpcppclaaaQFnMinsSetx2
namespace Go.Proofs.Ytpheodpcppclaaa.QFnMinsSet
open Go.RowKit Go.Proofs.YtpheodpcppclaaaW.PrintWords Go.Proofs.YtpheodpcppclaaaW.PrintLast Go.Proofs.YtpheodpcppclaaaW.PrintMore
attribute [local go_sem] max2_int min2_int max_two min_two max_three min_three max_four min_four   -- for this text's walks alone
set_option linter.unusedVariables false
set_option linter.unusedSimpArgs false

/-! ### slices_Repeat_int_int: function 57 -/
mutual
def slices_Repeat_int_int.j0 : Nat → List Int → Int → Bool → Option (List Int)
 | 0, _, _, _ => none
 | k + 1, x0, x6, x26 => if x26 = true then (none) else (if 0 ≤ (wrap64 (x6)) then (if (wrap64 (x6) : Int).toNat ≤ 35184372088832 then ((some (List.replicate (wrap64 (x6) : Int).toNat 0 : List Int)).bind fun y148 => (slices_Repeat_int_int.l0 k (kopy y148 0 x0) ((min x0.length (y148.length - 0) : Nat) : Int))) else (none)) else (none))
def slices_Repeat_int_int.l0 : Nat → List Int → Int → Option (List Int)
 | 0, _, _ => none
 | k + 1, x7, x8 => if x8 < (x7.length : Int) then (if 0 ≤ x8 then (if x8 ≤ (x7.length : Int) then ((some (x7.take (x8 : Int).toNat : List Int)).bind fun y156 => (slices_Repeat_int_int.l0 k (kopy x7 (x8 : Int).toNat y156) (wrap64 (x8 + ((min y156.length (x7.length - (x8 : Int).toNat) : Nat) : Int))))) else (none)) else (none)) else (some x7)
end
def slices_Repeat_int_int.f (k : Nat) (l0 : List Int) (a1 : Int) : Option (List Int) := if a1 < 0 then (none) else ((bits_Mul.f (IntKind.u64.wrap ((l0.length : Int))) (IntKind.u64.wrap (a1))).bind fun bt146 => (if bt146.1 > 0 then (slices_Repeat_int_int.j0 k l0 bt146.2 true) else (slices_Repeat_int_int.j0 k l0 bt146.2 (decide (bt146.2 > 9223372036854775807)))))
theorem slices_Repeat_int_int.mono_l : ∀ k, (∀ y0 y1 y2, LeO (slices_Repeat_int_int.j0 k y0 y1 y2) (slices_Repeat_int_int.j0 (k + 1) y0 y1 y2)) ∧ (∀ y0 y1, LeO (slices_Repeat_int_int.l0 k y0 y1) (slices_Repeat_int_int.l0 (k + 1) y0 y1))
 | 0 => ⟨fun _ _ _ r h => by simp [slices_Repeat_int_int.j0] at h, fun _ _ r h => by simp [slices_Repeat_int_int.l0] at h⟩
 | k + 1 => by
  obtain ⟨ih0, ih1⟩ := slices_Repeat_int_int.mono_l k
  refine ⟨?_, ?_⟩
  ·intro y0 y1 y2
   unfold slices_Repeat_int_int.j0
   repeat' first|(with_reducible first|exact ih0 _ _ _|exact ih1 _ _|exact LeO.refl _|exact LeO.none _|refine LeO.ite ?_ ?_|refine LeO.bind ?_ (fun _ => ?_))|exact LeO.none _|refine LeO.ite ?_ ?_|refine LeO.bind ?_ (fun _ => ?_)
  ·intro y0 y1
   unfold slices_Repeat_int_int.l0
   repeat' first|(with_reducible first|exact ih0 _ _ _|exact ih1 _ _|exact LeO.refl _|exact LeO.none _|refine LeO.ite ?_ ?_|refine LeO.bind ?_ (fun _ => ?_))|exact LeO.none _|refine LeO.ite ?_ ?_|refine LeO.bind ?_ (fun _ => ?_)
theorem slices_Repeat_int_int.mono : ∀ a0 a1 k, LeO (slices_Repeat_int_int.f k a0 a1) (slices_Repeat_int_int.f (k + 1) a0 a1) := by
 intro a0 a1 k
 obtain ⟨ih0, ih1⟩ := slices_Repeat_int_int.mono_l k
 unfold slices_Repeat_int_int.f
 repeat' first|(with_reducible first|exact ih0 _ _ _|exact ih1 _ _|exact LeO.refl _|exact LeO.none _|refine LeO.ite ?_ ?_|refine LeO.bind ?_ (fun _ => ?_))|exact LeO.none _|refine LeO.ite ?_ ?_|refine LeO.bind ?_ (fun _ => ?_)
def slices_Repeat_int_int.T9 : Bool × List (List Nat × List Nat) := (true, [([], []), ([], []), ([], []), ([1, 2], [1, 2]), ([], []), ([], []), ([4, 5], [4, 5]), ([3, 6], [3, 6]), ([0, 7], [0, 7]), ([8, 7, 0, 1, 2, 3, 4, 5, 6, 7, 8], [0, 2, 5, 8])])
def slices_Repeat_int_int.B9 : List Nat := [0, 0, 0, 6, 0, 0, 48, 126, 255, 511]
theorem slices_Repeat_int_int.tab9 : rtab .any (opsOf Try.f57 9) = slices_Repeat_int_int.T9 := by kernel_rfl
theorem slices_Repeat_int_int.bits9 : waitsOk slices_Repeat_int_int.T9.2 slices_Repeat_int_int.B9 = true := by kernel_rfl
abbrev slices_Repeat_int_int.m0 : Array Bool := #[F,F,F,F,F,F,F,F,F,F]
abbrev slices_Repeat_int_int.m1 : Array Bool := #[T,F,F,F,F,F,F,F,F,F]
abbrev slices_Repeat_int_int.m2 : Array Bool := #[T,T,F,F,F,F,F,F,F,F]
abbrev slices_Repeat_int_int.m3 : Array Bool := #[T,T,T,F,F,F,F,F,F,F]
abbrev slices_Repeat_int_int.m4 : Array Bool := #[T,T,T,T,F,F,F,F,F,F]
abbrev slices_Repeat_int_int.m5 : Array Bool := #[T,T,T,T,T,F,F,F,F,F]
abbrev slices_Repeat_int_int.m6 : Array Bool := #[T,T,T,T,T,T,F,F,F,F]
abbrev slices_Repeat_int_int.m7 : Array Bool := #[T,T,T,T,T,T,T,F,F,F]
abbrev slices_Repeat_int_int.m8 : Array Bool := #[T,T,T,T,T,T,T,T,F,F]
abbrev slices_Repeat_int_int.m9 : Array Bool := #[T,T,T,T,T,T,T,T,T,F]
abbrev slices_Repeat_int_int.m10 : Array Bool := #[T,T,T,T,T,T,T,T,T,T]
set_option maxHeartbeats 8000000 in
set_option maxRecDepth 100000 in
theorem slices_Repeat_int_int.calls (k : Nat) (A0 : Option Addr) (c0 : Nat) (l0 : List Int) (a1 : Int) (r : List Int) (w : World) (hr0 : Kd.C (Kd.int .i64) w A0 l0.length l0) (hc0 : l0.length ≤ c0) (h : slices_Repeat_int_int.f k l0 a1 = some r) :
  Calls Try.prog 57 #[.slice A0 l0.length c0, .int .i64 a1] w fun e w' => ∃ v0_ : Value, e = .returned (v0_) ∧ Kd.R (Kd.int .i64) 3 w' w.heap.size (fun _ => True) v0_ r ∧ Below w.heap.size w w' := by
 have HR0:=mk0 hr0
 have HC0:=mk0 hc0
 clear hr0 hc0
 have HB:=mk0 (Below.refl w.heap.size w)
 have H:(if a1 < 0 then (none) else ((bits_Mul.f (IntKind.u64.wrap ((l0.length:Int))) (IntKind.u64.wrap (a1))).bind fun bt146=>(if bt146.1 > 0 then (slices_Repeat_int_int.j0 k l0 bt146.2 true) else (slices_Repeat_int_int.j0 k l0 bt146.2 (decide (bt146.2 > 9223372036854775807)))))) = some r:=h
 clear h
 by_cases c3:a1 < 0
 ·rw [if_pos c3] at H
  exact absurd H (by simp)
 rw [if_neg c3] at H
 have c3b0:decide (a1 < 0) = false:=decide_eq_false c3
 clear c3
 replace H:=Option.bind_eq_some_iff.mp H
 obtain⟨⟨t146,t147⟩,A40,H⟩:=H
 replace H:(if t146 > 0 then (slices_Repeat_int_int.j0 k l0 t147 true) else (slices_Repeat_int_int.j0 k l0 t147 (decide (t147 > 9223372036854775807)))) = some r:=H
 have A4:=mk0 A40
 clear A40
 have HC5:=mk0 H
 clear H
 go_enter Try.func57,Try.ntmps57
 go_upto_region 4 with (first|((with_reducible refine gate_callee (f:=64) rfl ?_);refine goesL_ (some 18) rfl rfl Try.func64 (by kernel_rfl) rfl #[.int .u64 (IntKind.u64.wrap ((l0.length:Int))),.int .u64 (IntKind.u64.wrap (a1))] rfl (by (try simp only [mA,mC,mN]);first|done|rfl|(simp only [List.length_drop,List.length_take];rfl)) ?_;(with_reducible refine (bits_Mul.calls (IntKind.u64.wrap ((l0.length:Int))) (IntKind.u64.wrap (a1)) t146 t147 _ A4.out).mono ?_);rintro e w' ⟨rfl,⟨nd,rfl⟩⟩;refine⟨_,rfl,?_⟩))
 (try simp only [Act.put,sA,sO,sS])
 go_cut [26] (fun v26 wc=>∃ (kq:Nat) (x26_4:Bool),v26 = .bool x26_4 ∧ Aside0 (slices_Repeat_int_int.j0 kq l0 t147 x26_4 = some r) ∧ Aside0 (kq ≤ k) ∧ Aside0 (Below w.heap.size w wc))
 case first =>
  have H:=HC5.out
  clear HC5
  by_cases c6:t146 > 0
  ·rw [if_pos c6] at H
   have c6b0:decide (0 < t146) = true:=decide_eq_true c6
   clear c6
   (first|rw [c6b0]|(simp only [i64_w,i32_w];rw [c6b0])|skip)
   have H':=mk0 H
   clear H
   go_wp2
   go_meet
   case rel=>exact⟨_,(true),(by first|rfl|(simp;done)|(simp [*];done)),H',⟨by first|omega|exact Nat.le_refl _⟩,⟨by repeat (first|(with_reducible first|exact HB.out|apply aZ|apply nZ|apply dZ)|exact HB.out)⟩⟩
  rw [if_neg c6] at H
  have c6b0:decide (0 < t146) = false:=decide_eq_false c6
  clear c6
  (first|rw [c6b0]|(simp only [i64_w,i32_w];rw [c6b0])|skip)
  have H':=mk0 H
  clear H
  go_wp2
  go_meet
  case rel=>exact⟨_,(decide (t147 > 9223372036854775807)),(by first|rfl|(simp;done)|(simp [*];done)),H',⟨by first|omega|exact Nat.le_refl _⟩,⟨by repeat (first|(with_reducible first|exact HB.out|apply aZ|apply nZ|apply dZ)|exact HB.out)⟩⟩
 case rest =>
  clear HC5
  try clear p2
  try clear c3
  try clear c3b0
  try clear c5
  try clear c6
  try clear c6b0
  obtain⟨kq,x26_4,rfl,HA,HJ4,HB⟩:=hcut
  cases kq with
  | zero=>exact absurd HA.out (by simp [slices_Repeat_int_int.j0])
  | succ kj4 =>
   have H:=HA.out
   clear HA
   simp only [slices_Repeat_int_int.j0] at H
   by_cases c7:x26_4 = true
   ·subst c7
    have H1:(none) = some r:=by rw [if_pos rfl] at H;exact H
    clear H
    have H:=H1
    clear H1
    exact absurd H (by simp)
   replace c7:=Bool.eq_false_iff.mpr c7
   subst c7
   have H1:(if 0 ≤ (wrap64 (t147)) then (if (wrap64 (t147):Int).toNat ≤ 35184372088832 then ((some (List.replicate (wrap64 (t147):Int).toNat 0:List Int)).bind fun y148=>(slices_Repeat_int_int.l0 kj4 (kopy y148 0 l0) ((min l0.length (y148.length - 0):Nat):Int))) else (none)) else (none)) = some r:=by rw [if_neg (show ¬ (false = true) by decide)] at H;exact H
   clear H
   have H:=H1
   clear H1
   obtain⟨ji8,hji8⟩:∃ j_:Int,(wrap64 (t147)) = j_:=⟨_,rfl⟩
   replace H:(if 0 ≤ (ji8) then (if (ji8:Int).toNat ≤ 35184372088832 then ((some (List.replicate (ji8:Int).toNat 0:List Int)).bind fun y148=>(slices_Repeat_int_int.l0 kj4 (kopy y148 0 l0) ((min l0.length (y148.length - 0):Nat):Int))) else (none)) else (none)) = some r:=by first|(rw [hji8] at H;exact H)|(simp only [hji8] at H ⊢;exact H)
   have hji8w:(IntKind.i64.wrap (t147)) = ji8:=(i64_w _).trans hji8
   by_cases c9:0 ≤ (ji8)
   rotate_left
   ·rw [if_neg c9] at H
    exact absurd H (by simp)

   rw [if_pos c9] at H
   have c9b0:=eq_true c9
   have c9b1:decide (0 ≤ (ji8)) = true:=decide_eq_true c9
   clear c9
   by_cases c10:(ji8:Int).toNat ≤ 35184372088832
   rotate_left
   ·rw [if_neg c10] at H
    exact absurd H (by simp)
   rw [if_pos c10] at H
   have c10b0:=eq_true c10
   have c10b1:decide ((ji8:Int).toNat ≤ 35184372088832) = true:=decide_eq_true c10
   clear c10
   obtain⟨y148,hy148⟩:∃ y_:List Int,y_ = (List.replicate (ji8:Int).toNat 0):=⟨_,rfl⟩
   replace H:(slices_Repeat_int_int.l0 kj4 (kopy y148 0 l0) ((min l0.length (y148.length - 0):Nat):Int)) = some r:=by first|(rw [hy148];with_reducible exact H)|(have H2_:=(Option.bind_some _ _).symm.trans H;rw [hy148];with_reducible exact H2_)|(have H2_:=(Option.bind_some _ _).symm.trans H;with_reducible exact H2_)|with_reducible exact H|(rw [hy148];exact H)|exact H
   have Ny148:=mk0 hy148
   clear hy148
   obtain⟨y151,hy151⟩:∃ y_:List Int,y_ = (kopy y148 0 l0):=⟨_,rfl⟩
   replace H:(slices_Repeat_int_int.l0 kj4 y151 ((min l0.length (y148.length - 0):Nat):Int)) = some r:=by first|(rw [hy151];with_reducible exact H)|(have H2_:=(Option.bind_some _ _).symm.trans H;rw [hy151];with_reducible exact H2_)|(have H2_:=(Option.bind_some _ _).symm.trans H;with_reducible exact H2_)|with_reducible exact H|(rw [hy151];exact H)|exact H
   have Ny151:=mk0 hy151
   clear hy151
   have H':=mk0 H
   clear H
   go_wp2_with (first|((with_reducible refine gate_dst (N:=30) rfl ?_);refine Kd.R_make (Kd.int .i64) _ 3 rfl (N:=30) rfl 22 _ _ rfl ji8 rfl rfl Try.underlying22 (.int .i64 0) 8 info3 rfl (by decide) (by omega) 0 (ok:=fun _=>True) (okp:=fun _=>True) rfl (fun _ hk=>hk) trivial (of_decide_eq_true (by first|(with_reducible assumption)|assumption)) (Nat.le_trans (Nat.mul_le_mul_right _ (of_decide_eq_true (by first|(with_reducible assumption)|assumption):ji8.toNat ≤ 35184372088832)) (by omega)) (Below.refl _ _) (Nat.le_refl _) ?_;intro v149 w11 ho12 hb hg_ hnew_;clear hg_ hnew_;(first|rw [← Ny148.out] at ho12|(simp only [Int.reduceToNat] at ho12;rw [← Ny148.out] at ho12));have n0_:=mk0 (Kd.R_lower ho12 (below_size (by repeat (first|(with_reducible first|exact HB.out|apply aZ|apply nZ|apply dZ)|exact HB.out))));have n1_:=mk0 (below_step (by repeat (first|(with_reducible first|exact HB.out|apply aZ|apply nZ|apply dZ)|exact HB.out)) hb);clear HB;have HO150:=n0_;have HB:=n1_;clear n0_ n1_ hb ho12;obtain⟨Ao15,co15,eo15⟩:=Kd.R_slice HO150.out;subst eo15)|((with_reducible refine gate_builtin (b:=.copy) (xs:=#[.tmp 31,.tmp 32]) rfl ?_);refine R_copyin (enc:=(Value.int .i64)) (h1:=fun _=>rfl) 0 (w0:=w) w.heap.size rfl (.tmp 31) (.tmp 32) 22 22 3 rfl Try.underlying22 (by kernel_rfl) (n:=y148.length) (c:=co15) (k:=0) (xs:=y148) (ys:=l0) rfl rfl ?hA ?hm (by (with_reducible repeat (first|apply aR|apply nR|apply dR));exact HO150.out) ?hk ?hS (by repeat (first|(with_reducible first|exact HB.out|apply aZ|apply nZ|apply dZ)|exact HB.out)) (below_size (by repeat (first|(with_reducible first|exact HB.out|apply aZ|apply nZ|apply dZ)|exact HB.out))) ?_;(case hA=>exact kopy_whole);(case hm=>exact rfl);(case hk=>exact Nat.zero_le _);(case hS=>repeat (first|exact (Kd.C_below HR0.out HB.out)|(with_reducible first|apply aC|apply nC|apply dC)));intro w13 ho hb hg;have hp_:Kd.R (Kd.int .i64) 3 w13 w.heap.size (fun _=>True) (.slice Ao15 y148.length co15) y151:=(by rw [Ny151.out];exact ho);clear ho;have n0_:=mk0 (hp_);have n1_:=mk0 (hb);clear HO150 HB;have HO150:=n0_;have HB:=n1_;clear n0_ n1_ hg hp_ hb))
   go_loopg [8] kj4 (fun kq v8 w'=>∃ (x7_2:List Int) (x8_2:Int),v8 = .int .i64 x8_2 ∧ Aside0 (slices_Repeat_int_int.l0 kq x7_2 x8_2 = some r) ∧ Aside0 (kq ≤ kj4) ∧ Aside0 (Kd.R (Kd.int .i64) 3 w' w.heap.size (fun _=>True) (.slice Ao15 y148.length co15) x7_2) ∧ Aside0 (Below w.heap.size w w'))
   case atStart=>exact⟨(y151),(((min l0.length (y148.length - 0):Nat):Int)),(by first|rfl|(simp;done)|(simp [*];done)),H',⟨Nat.le_refl _⟩,⟨by (with_reducible repeat (first|apply aR|apply nR|apply dR));exact HO150.out⟩,⟨by repeat (first|(with_reducible first|exact HB.out|apply aZ|apply nZ|apply dZ)|exact HB.out)⟩⟩
   case round =>
    clear H'
    try clear c1
    try clear p2
    try clear c3
    try clear c3b0
    try clear c5
    try clear c6
    try clear c6b0
    try clear p6
    try clear c7
    try clear c9
    try clear c9b0
    try clear c9b1
    try clear c10
    try clear c10b0
    try clear c10b1
    try clear p2
    obtain⟨x7_2,x8_2,rfl,HA,HK2,HO_7,HB⟩:=hrel
    have hl7_2:=(Kd.R_reads' HO_7.out).1
    rw [hl7_2] at HO_7
    (try simp only [hl7_2])
    cases gk with
    | zero=>exact absurd HA.out (by simp [slices_Repeat_int_int.l0])
    | succ k2 =>
     have H:=HA.out
     clear HA
     simp only [slices_Repeat_int_int.l0] at H
     by_cases c16:x8_2 < (x7_2.length:Int)
     rotate_left
     ·rw [if_neg c16] at H
      have c16b0:decide (x8_2 < (x7_2.length:Int)) = false:=decide_eq_false c16
      (try simp only [hl7_2] at c16b0)
      clear c16
      obtain rfl:=Option.some.inj H
      go_wp2
      go_ret
      exact⟨_,by first|rfl|(simp [errW_none,errW_some] <;> rfl)|(simp only [← hji8];first|rfl|(simp [errW_none,errW_some] <;> rfl))|(simp [*,errW_none,errW_some] <;> rfl),by (with_reducible repeat (first|apply aR|apply nR|apply dR));exact HO_7.out,by repeat (first|(with_reducible first|exact HB.out|apply aZ|apply nZ|apply dZ)|exact HB.out)⟩
     rw [if_pos c16] at H
     have c16b0:decide (x8_2 < (x7_2.length:Int)) = true:=decide_eq_true c16
     (try simp only [hl7_2] at c16b0)
     clear c16
     by_cases c17:0 ≤ x8_2
     rotate_left
     ·rw [if_neg c17] at H
      exact absurd H (by simp)
     rw [if_pos c17] at H
     have c17b0:=eq_true c17
     have c17b1:decide (0 ≤ x8_2) = true:=decide_eq_true c17
     clear c17
     by_cases c18:x8_2 ≤ (x7_2.length:Int)
     rotate_left
     ·rw [if_neg c18] at H
      exact absurd H (by simp)
     rw [if_pos c18] at H
     have c18b0:=eq_true c18
     have c18b1:decide (x8_2 ≤ (x7_2.length:Int)) = true:=decide_eq_true c18
     (try simp only [hl7_2] at c18b1)
     clear c18
     obtain⟨y152,hy152⟩:∃ y_:List Int,y_ = (x7_2.drop (x8_2:Int).toNat):=⟨_,rfl⟩
     replace H:((some (x7_2.take (x8_2:Int).toNat:List Int)).bind fun y156=>(slices_Repeat_int_int.l0 k2 (kopy x7_2 (x8_2:Int).toNat y156) (wrap64 (x8_2 + ((min y156.length (x7_2.length - (x8_2:Int).toNat):Nat):Int))))) = some r:=by first|(rw [hy152];with_reducible exact H)|(have H2_:=(Option.bind_some _ _).symm.trans H;rw [hy152];with_reducible exact H2_)|(have H2_:=(Option.bind_some _ _).symm.trans H;with_reducible exact H2_)|with_reducible exact H|(rw [hy152];exact H)|exact H
     have Ny152:=mk0 hy152
     clear hy152
     have c19b0:=eq_true (of_decide_eq_true (by first|(with_reducible assumption)|assumption):0 ≤ x8_2)
     have c20b0:=eq_true (of_decide_eq_true (by first|(with_reducible assumption)|assumption):x8_2 ≤ (x7_2.length:Int))
     obtain⟨y156,hy156⟩:∃ y_:List Int,y_ = (x7_2.take (x8_2:Int).toNat):=⟨_,rfl⟩
     replace H:(slices_Repeat_int_int.l0 k2 (kopy x7_2 (x8_2:Int).toNat y156) (wrap64 (x8_2 + ((min y156.length (x7_2.length - (x8_2:Int).toNat):Nat):Int)))) = some r:=by first|(rw [hy156];with_reducible exact H)|(have H2_:=(Option.bind_some _ _).symm.trans H;rw [hy156];with_reducible exact H2_)|(have H2_:=(Option.bind_some _ _).symm.trans H;with_reducible exact H2_)|with_reducible exact H|(rw [hy156];exact H)|exact H
     have Ny156:=mk0 hy156
     clear hy156
     obtain⟨y160,hy160⟩:∃ y_:List Int,y_ = (kopy x7_2 (x8_2:Int).toNat y156):=⟨_,rfl⟩
     replace H:(slices_Repeat_int_int.l0 k2 y160 (wrap64 (x8_2 + ((min y156.length (x7_2.length - (x8_2:Int).toNat):Nat):Int)))) = some r:=by first|(rw [hy160];with_reducible exact H)|(have H2_:=(Option.bind_some _ _).symm.trans H;rw [hy160];with_reducible exact H2_)|(have H2_:=(Option.bind_some _ _).symm.trans H;with_reducible exact H2_)|with_reducible exact H|(rw [hy160];exact H)|exact H
     have Ny160:=mk0 hy160
     clear hy160
     have H':=mk0 H
     clear H
     try go_wp2
     have n0_:=mk0 (dR HO_7.out)
     have n1_:=mk0 (dZ HB.out)
     clear HO_7
     clear HB
     have HO_7:=n0_
     have HB:=n1_
     clear n0_ n1_
     have q22:(x8_2:Int) ≤ ((x7_2.length:Int):Int):=of_decide_eq_true (by first|(with_reducible assumption)|assumption)
     obtain⟨i022,hi022,_,hsz22,_⟩:=info_parts info3
     have hroom22:x7_2.length ≤ co15:=(Kd.R_reads' HO_7.out).2.1
     have hC22:Kd.C (Kd.int .i64) _ Ao15 x7_2.length x7_2:=(Kd.R_reads' HO_7.out).2.2
     have q022:(0:Int) ≤ (x8_2:Int):=of_decide_eq_true (by first|(with_reducible assumption)|assumption)
     have hcut22:=cut_from (P:=Try.prog) 22 3 .i64 Try.underlying22 hi022 1 hsz22 Ao15 x7_2.length co15 x8_2 q022 q22
     have hr22:=Kd.C_drop (m:=(x8_2:Int).toNat) (c:=co15) hC22 (by omega) hroom22
     obtain⟨A22,hA22⟩:∃ A1,A1 = (if co15 = (x8_2:Int).toNat then Ao15 else (Ao15:Option Addr).map (·.add ((x8_2:Int).toNat * 1))):=⟨_,rfl⟩
     obtain⟨c22,hc22⟩:∃ c1,c1 = co15 - (x8_2:Int).toNat:=⟨_,rfl⟩
     have hy22:y152.length = x7_2.length - (x8_2:Int).toNat:=(by rw [Ny152.out,List.length_drop] <;> omega)
     rw [show (x7_2).drop (x8_2:Int).toNat = y152 from Ny152.out.symm] at hr22
     replace hr22:Kd.C (Kd.int .i64) _ A22 y152.length y152:=(by rw [hA22];exact hr22)
     rw [← hy22, ← hA22, ← hc22] at hcut22
     have HR155:=mk0 hr22
     have HC155:=mk0 (show y152.length ≤ c22 from by rw [hy22,hc22];exact Nat.sub_le_sub_right hroom22 _)
     clear hr22 hC22 hroom22 hi022 hsz22 hc22
     have KY22:=mk0 hy22
     have KA22:=mk0 hA22
     clear hy22 hA22
     have KL22:=mk0 (show (x8_2:Int).toNat ≤ x7_2.length from by omega)
     replace q22:=eq_true q22
     have q23:(x8_2:Int) ≤ ((x7_2.length:Int):Int):=of_decide_eq_true (by first|(with_reducible assumption)|assumption)
     obtain⟨i023,hi023,_,hsz23,_⟩:=info_parts info3
     have hroom23:x7_2.length ≤ co15:=(Kd.R_reads' HO_7.out).2.1
     have hC23:Kd.C (Kd.int .i64) _ Ao15 x7_2.length x7_2:=(Kd.R_reads' HO_7.out).2.2
     have hcut23:=cut_to (P:=Try.prog) 22 3 .i64 Try.underlying22 hi023 Ao15 x7_2.length co15 x8_2 (of_decide_eq_true (by first|(with_reducible assumption)|assumption)) q23 hroom23
     have hr23:=Kd.C_take (m:=(x8_2:Int).toNat) hC23 (by omega)
     have hy23:y156.length = (x8_2:Int).toNat:=(by rw [Ny156.out,List.length_take];omega)
     rw [← Ny156.out] at hr23
     rw [← hy23] at hcut23
     have HR159:=mk0 hr23
     have HC159:=mk0 (show y156.length ≤ co15 from by omega)
     clear hr23 hC23 hroom23 hi023 hsz23
     have KY23:=mk0 hy23
     clear hy23
     have KL23:=mk0 (show (x8_2:Int).toNat ≤ x7_2.length from by omega)
     replace q23:=eq_true q23
     refine start_ (n:=10) (S:=fun w'=>True) (ds:=[]) slices_Repeat_int_int.m0 (by kernel_rfl) rfl rfl trivial (fun hHeld=>?_);refine with_tabW slices_Repeat_int_int.tab9 slices_Repeat_int_int.bits9 (fun HT_ HW_=>?_)
     generalize wr.drew = w21 at HO_7 HB HR155 HR159 hHeld ⊢
     refine pure_ (i:=0) (N:=some 38) (v:=?_) (a':=?_) slices_Repeat_int_int.m1 rfl rfl (any_of HT_.out (by kernel_rfl)) (fun _ _ _ h=>h) (Or.inl ⟨by rfl,?_⟩) ?_ ?_
     rotate_left
     ·intro w'
      go_simp
      with_reducible rfl
     rotate_left
     ·simp only [Act.put,sA,sO,sS,i64_w,i32_w]
      rfl
     refine pure_ (i:=1) (N:=some 39) (v:=?_) (a':=?_) slices_Repeat_int_int.m2 rfl rfl (any_of HT_.out (by kernel_rfl)) (fun _ _ _ h=>h) (Or.inl ⟨by rfl,?_⟩) ?_ ?_
     rotate_left
     ·intro w'
      go_simp
      with_reducible rfl
     rotate_left
     ·simp only [Act.put,sA,sO,sS,i64_w,i32_w]
      rfl
     refine pure_ (i:=2) (N:=some 40) (v:=?_) (a':=?_) slices_Repeat_int_int.m3 rfl rfl (any_of HT_.out (by kernel_rfl)) (fun _ _ _ h=>h) (Or.inl ⟨by rfl,?_⟩) ?_ ?_
     rotate_left
     ·intro w'
      go_simp
      with_reducible rfl
     rotate_left
     ·simp only [Act.put,sA,sO,sS,i64_w,i32_w]
      rfl
     refine pure_ (i:=3) (N:=some 41) (v:=?_) (a':=?_) slices_Repeat_int_int.m4 rfl rfl (any_of HT_.out (by kernel_rfl)) (fun _ _ _ h=>h) (Or.inl ⟨by rfl,?_⟩) ?_ ?_
     rotate_left
     ·intro w'
      go_simp
      with_reducible rfl
     rotate_left
     ·simp only [Act.put,sA,sO,sS,i64_w,i32_w]
      rfl
     refine pure_ (i:=4) (N:=some 42) (v:=?_) (a':=?_) slices_Repeat_int_int.m5 rfl rfl (any_of HT_.out (by kernel_rfl)) (fun _ _ _ h=>h) (Or.inl ⟨by rfl,?_⟩) ?_ ?_
     rotate_left
     ·intro w'
      go_simp
      with_reducible rfl
     rotate_left
     ·simp only [Act.put,sA,sO,sS,i64_w,i32_w]
      rfl
     refine pure_ (i:=5) (N:=some 43) (v:=?_) (a':=?_) slices_Repeat_int_int.m6 rfl rfl (any_of HT_.out (by kernel_rfl)) (fun _ _ _ h=>h) (Or.inl ⟨by rfl,?_⟩) ?_ ?_
     rotate_left
     ·intro w'
      go_simp
      with_reducible rfl
     rotate_left
     ·simp only [Act.put,sA,sO,sS,i64_w,i32_w]
      rfl
     refine pure_ (i:=6) (N:=some 44) (v:=?_) (a':=?_) slices_Repeat_int_int.m7 rfl rfl (any_of HT_.out (by kernel_rfl)) (fun _ _ _ h=>h) (Or.inl ⟨by rfl,?_⟩) ?_ ?_
     rotate_left
     ·intro w'
      go_simp
      with_reducible rfl
     rotate_left
     ·simp only [Act.put,sA,sO,sS,i64_w,i32_w]
      rfl
     refine one_ (i:=7) (N:=some 45) slices_Repeat_int_int.m8 rfl rfl (one_of HT_.out (by kernel_rfl)) (by decide) (fun K hK=>?_)
     refine R_copyin_step (enc:=(Value.int .i64)) (h1:=fun _=>rfl) 0 (w0:=w) w.heap.size (by rfl) (.tmp 41) (.tmp 44) 22 22 3 rfl Try.underlying22 (by kernel_rfl) (n:=x7_2.length) (c:=co15) (k:=(x8_2:Int).toNat) (xs:=x7_2) (ys:=y156) rfl rfl ?hA ?hm (by (with_reducible repeat (first|apply aR|apply nR|apply dR));exact HO_7.out) ?hk ?hS (by repeat (first|(with_reducible first|exact HB.out|apply aZ|apply nZ|apply dZ)|exact HB.out)) (below_size (by repeat (first|(with_reducible first|exact HB.out|apply aZ|apply nZ|apply dZ)|exact HB.out))) ?_
     (case hA=>exact KA22.out)
     (case hm=>exact KY22.out)
     (case hk=>exact KL22.out)
     (case hS=>repeat (first|exact (by repeat (first|(with_reducible exact HR159.out)|(with_reducible first|apply aC|apply nC|apply dC)|exact HR159.out))|(with_reducible first|apply aC|apply nC|apply dC)))
     intro w24 ho hb hg
     have hp_:Kd.R (Kd.int .i64) 3 w24 w.heap.size (fun _=>True) (.slice Ao15 x7_2.length co15) y160:=(by rw [Ny160.out];exact ho)
     clear ho
     have n0_:=mk0 (hp_)
     have n1_:=mk0 (hb)
     clear HO_7
     clear HB
     have HO_7:=n0_
     have HB:=n1_
     clear n0_ n1_
     clear hg hp_ hb
     refine hK.out _ _ trivial (fun hHeld=>?_)
     clear hK K
     refine norm_ (a':=?_) ?_ ?_
     rotate_left
     ·show Act.put _ (some 45) _ = _
      simp only [Act.put,sA,sO,sS,i64_w,i32_w]
      rfl
     refine pure_ (i:=8) (N:=some 46) (v:=?_) (a':=?_) slices_Repeat_int_int.m9 rfl rfl (any_of HT_.out (by kernel_rfl)) (fun _ _ _ h=>h) (Or.inl ⟨by rfl,?_⟩) ?_ ?_
     rotate_left
     ·intro w'
      go_simp
      with_reducible rfl
     rotate_left
     ·simp only [Act.put,sA,sO,sS,i64_w,i32_w]
      rfl
     refine pure_ (i:=9) (N:=some 8) (v:=?_) (a':=?_) slices_Repeat_int_int.m10 rfl rfl (any_of HT_.out (by kernel_rfl)) (fun _ _ _ h=>h) (Or.inl ⟨by rfl,?_⟩) ?_ ?_
     rotate_left
     ·intro w'
      go_simp
      with_reducible rfl
     rotate_left
     ·simp only [Act.put,sA,sO,sS,i64_w,i32_w]
      rfl
     refine done_ (done_of HT_.out (by kernel_rfl)) ?_
     try go_wp2
     (try simp only [← hl7_2])
     go_roundg k2
     case measure=>have:=HJ4.out;have:=HK2.out;omega
     case rel=>exact⟨(y160),(wrap64 (x8_2 + ((min y156.length (x7_2.length - (x8_2:Int).toNat):Nat):Int))),(by first|rfl|(simp;done)|(simp [*];done)),H',⟨by have:=HJ4.out;have:=HK2.out;omega⟩,⟨by (try simp only [hl7_2]);(with_reducible repeat (first|apply aR|apply nR|apply dR));exact HO_7.out⟩,⟨by repeat (first|(with_reducible first|exact HB.out|apply aZ|apply nZ|apply dZ)|exact HB.out)⟩⟩
/-! ### impl_minsOf: function 39 -/
def impl_minsOf.l0 : Nat → Int → Int → List Int → Option (Int × List Int)
 | 0, _, _, _ => none
 | k + 1, x5, x170000, x170001 => if x5 > 0 then (if 0 ≤ (wrap64 (2 * x5)) then (if (wrap64 (2 * x5)) < (x170001.length : Int) then (if 0 ≤ (wrap64 ((wrap64 (2 * x5)) + 1)) then (if (wrap64 ((wrap64 (2 * x5)) + 1)) < (x170001.length : Int) then (if 0 ≤ x5 then (if x5 < (x170001.length : Int) then (impl_minsOf.l0 k (wrap64 (x5 - 1)) x170000 (x170001.set (x5 : Int).toNat (mn (rd x170001 (wrap64 (2 * x5))) (rd x170001 (wrap64 ((wrap64 (2 * x5)) + 1)))))) else (none)) else (none)) else (none)) else (none)) else (none)) else (none)) else (if 0 < (x170001.length : Int) then (some (x170000, (x170001.set (0 : Int).toNat 0))) else (none))
def impl_minsOf.f (k : Nat) (l0 : List Int) : Option (Int × List Int) := (impl_leaves.f k (l0.length : Int)).bind fun t162 => ((slices_Repeat_int_int.f k (([1000000000] : List Int)) (wrap64 (2 * t162))).bind fun t166 => (if 0 ≤ t162 then (if t162 ≤ (t166.length : Int) then (impl_minsOf.l0 k (wrap64 (t162 - 1)) (l0.length : Int) (kopy t166 (t162 : Int).toNat l0)) else (none)) else (none)))
theorem impl_minsOf.mono_l : ∀ k, (∀ y0 y1 y2, LeO (impl_minsOf.l0 k y0 y1 y2) (impl_minsOf.l0 (k + 1) y0 y1 y2))
 | 0 => fun _ _ _ r h => by simp [impl_minsOf.l0] at h
 | k + 1 => by
  have ih0 := impl_minsOf.mono_l k
  ·intro y0 y1 y2
   unfold impl_minsOf.l0
   repeat' first|(with_reducible first|exact ih0 _ _ _|exact impl_leaves.mono _ _|exact slices_Repeat_int_int.mono _ _ _|exact LeO.refl _|exact LeO.none _|refine LeO.ite ?_ ?_|refine LeO.bind ?_ (fun _ => ?_))|exact LeO.none _|refine LeO.ite ?_ ?_|refine LeO.bind ?_ (fun _ => ?_)
theorem impl_minsOf.mono : ∀ a0 k, LeO (impl_minsOf.f k a0) (impl_minsOf.f (k + 1) a0) := by
 intro a0 k
 have ih0 := impl_minsOf.mono_l k
 unfold impl_minsOf.f
 repeat' first|(with_reducible first|exact ih0 _ _ _|exact impl_leaves.mono _ _|exact slices_Repeat_int_int.mono _ _ _|exact LeO.refl _|exact LeO.none _|refine LeO.ite ?_ ?_|refine LeO.bind ?_ (fun _ => ?_))|exact LeO.none _|refine LeO.ite ?_ ?_|refine LeO.bind ?_ (fun _ => ?_)
def impl_minsOf.T7 : Bool × List (List Nat × List Nat) := (true, [([], []), ([0], [0]), ([], []), ([], []), ([3], [3]), ([], []), ([5], [5]), ([4, 6], [4, 6]), ([7], [7]), ([], []), ([9], [9]), ([], []), ([11], [11]), ([12], [12]), ([10, 13], [10, 13]), ([14], [14]), ([8, 15], [8, 15]), ([1, 2, 0, 1, 2, 3, 4, 5, 6, 7, 8, 9, 10, 11, 12, 13, 14, 15, 16], [1, 2]), ([17, 16, 0, 1, 2, 3, 4, 5, 6, 7, 8, 9, 10, 11, 12, 13, 14, 15, 16], [16, 17])])
def impl_minsOf.B7 : List Nat := [0, 1, 0, 0, 8, 0, 32, 120, 248, 0, 512, 0, 2048, 6144, 15872, 32256, 65528, 131071, 262143]
theorem impl_minsOf.tab7 : rtab .any (opsOf Try.f39 7) = impl_minsOf.T7 := by kernel_rfl
theorem impl_minsOf.bits7 : waitsOk impl_minsOf.T7.2 impl_minsOf.B7 = true := by kernel_rfl
abbrev impl_minsOf.m0 : Array Bool := #[F,F,F,F,F,F,F,F,F,F,F,F,F,F,F,F,F,F,F]
abbrev impl_minsOf.m1 : Array Bool := #[T,F,F,F,F,F,F,F,F,F,F,F,F,F,F,F,F,F,F]
abbrev impl_minsOf.m2 : Array Bool := #[T,F,T,F,F,F,F,F,F,F,F,F,F,F,F,F,F,F,F]
abbrev impl_minsOf.m3 : Array Bool := #[T,F,T,T,F,F,F,F,F,F,F,F,F,F,F,F,F,F,F]
abbrev impl_minsOf.m4 : Array Bool := #[T,F,T,T,F,T,F,F,F,F,F,F,F,F,F,F,F,F,F]
abbrev impl_minsOf.m5 : Array Bool := #[T,F,T,T,F,T,T,F,F,F,F,F,F,F,F,F,F,F,F]
abbrev impl_minsOf.m6 : Array Bool := #[T,F,T,T,F,T,T,F,F,T,F,F,F,F,F,F,F,F,F]
abbrev impl_minsOf.m7 : Array Bool := #[T,F,T,T,F,T,T,F,F,T,F,T,F,F,F,F,F,F,F]
abbrev impl_minsOf.m8 : Array Bool := #[T,F,T,T,F,T,T,F,F,T,F,T,T,F,F,F,F,F,F]
abbrev impl_minsOf.m9 : Array Bool := #[T,F,T,T,F,T,T,F,F,T,F,T,T,T,F,F,F,F,F]
abbrev impl_minsOf.m10 : Array Bool := #[T,T,T,T,F,T,T,F,F,T,F,T,T,T,F,F,F,F,F]
abbrev impl_minsOf.m11 : Array Bool := #[T,T,T,T,T,T,T,F,F,T,F,T,T,T,F,F,F,F,F]
abbrev impl_minsOf.m12 : Array Bool := #[T,T,T,T,T,T,T,T,F,T,F,T,T,T,F,F,F,F,F]
abbrev impl_minsOf.m13 : Array Bool := #[T,T,T,T,T,T,T,T,T,T,F,T,T,T,F,F,F,F,F]
abbrev impl_minsOf.m14 : Array Bool := #[T,T,T,T,T,T,T,T,T,T,T,T,T,T,F,F,F,F,F]
abbrev impl_minsOf.m15 : Array Bool := #[T,T,T,T,T,T,T,T,T,T,T,T,T,T,T,F,F,F,F]
abbrev impl_minsOf.m16 : Array Bool := #[T,T,T,T,T,T,T,T,T,T,T,T,T,T,T,T,F,F,F]
abbrev impl_minsOf.m17 : Array Bool := #[T,T,T,T,T,T,T,T,T,T,T,T,T,T,T,T,T,F,F]
abbrev impl_minsOf.m18 : Array Bool := #[T,T,T,T,T,T,T,T,T,T,T,T,T,T,T,T,T,T,F]
abbrev impl_minsOf.m19 : Array Bool := #[T,T,T,T,T,T,T,T,T,T,T,T,T,T,T,T,T,T,T]
set_option maxHeartbeats 8000000 in
set_option maxRecDepth 100000 in
theorem impl_minsOf.calls (k : Nat) (A0 : Option Addr) (c0 : Nat) (l0 : List Int) (r1 : Int) (r2 : List Int) (w : World) (hr0 : Kd.C (Kd.int .i64) w A0 l0.length l0) (hc0 : l0.length ≤ c0) (h : impl_minsOf.f k l0 = some (r1, r2)) :
  Calls Try.prog 39 #[.slice A0 l0.length c0] w fun e w' => ∃ v1_ : Value, e = .returned (.agg #[.int .i64 r1, v1_]) ∧ Kd.R (Kd.int .i64) 3 w' w.heap.size (fun _ => True) v1_ r2 ∧ Below w.heap.size w w' := by
 have hu24:=Try.underlying24
 have HR0:=mk0 hr0
 have HC0:=mk0 hc0
 clear hr0 hc0
 have HB:=mk0 (Below.refl w.heap.size w)
 have H:((impl_leaves.f k (l0.length:Int)).bind fun t162=>((slices_Repeat_int_int.f k (([1000000000]:List Int)) (wrap64 (2 * t162))).bind fun t166=>(if 0 ≤ t162 then (if t162 ≤ (t166.length:Int) then (impl_minsOf.l0 k (wrap64 (t162 - 1)) (l0.length:Int) (kopy t166 (t162:Int).toNat l0)) else (none)) else (none)))) = some (r1,r2):=h
 clear h
 replace H:=Option.bind_eq_some_iff.mp H
 obtain⟨t162,A20,H⟩:=H
 replace H:((slices_Repeat_int_int.f k (([1000000000]:List Int)) (wrap64 (2 * t162))).bind fun t166=>(if 0 ≤ t162 then (if t162 ≤ (t166.length:Int) then (impl_minsOf.l0 k (wrap64 (t162 - 1)) (l0.length:Int) (kopy t166 (t162:Int).toNat l0)) else (none)) else (none))) = some (r1,r2):=H
 have A2:=mk0 A20
 clear A20
 obtain⟨y163,hy163⟩:∃ y_:List Int,y_ = (([1000000000]:List Int)):=⟨_,rfl⟩
 replace H:((slices_Repeat_int_int.f k y163 (wrap64 (2 * t162))).bind fun t166=>(if 0 ≤ t162 then (if t162 ≤ (t166.length:Int) then (impl_minsOf.l0 k (wrap64 (t162 - 1)) (l0.length:Int) (kopy t166 (t162:Int).toNat l0)) else (none)) else (none))) = some (r1,r2):=by first|(rw [hy163];with_reducible exact H)|(have H2_:=(Option.bind_some _ _).symm.trans H;rw [hy163];with_reducible exact H2_)|(have H2_:=(Option.bind_some _ _).symm.trans H;with_reducible exact H2_)|with_reducible exact H|(rw [hy163];exact H)|exact H
 have Ny163:=mk0 hy163
 clear hy163
 replace H:=Option.bind_eq_some_iff.mp H
 obtain⟨t166,A30,H⟩:=H
 replace H:(if 0 ≤ t162 then (if t162 ≤ (t166.length:Int) then (impl_minsOf.l0 k (wrap64 (t162 - 1)) (l0.length:Int) (kopy t166 (t162:Int).toNat l0)) else (none)) else (none)) = some (r1,r2):=H
 have A3:=mk0 A30
 clear A30
 by_cases c4:0 ≤ t162
 rotate_left
 ·rw [if_neg c4] at H
  exact absurd H (by simp)

 rw [if_pos c4] at H
 have c4b0:=eq_true c4
 have c4b1:decide (0 ≤ t162) = true:=decide_eq_true c4
 clear c4
 by_cases c5:t162 ≤ (t166.length:Int)
 rotate_left
 ·rw [if_neg c5] at H
  exact absurd H (by simp)
 rw [if_pos c5] at H
 have c5b0:=eq_true c5
 have c5b1:decide (t162 ≤ (t166.length:Int)) = true:=decide_eq_true c5
 clear c5
 obtain⟨y170,hy170⟩:∃ y_:List Int,y_ = (t166.drop (t162:Int).toNat):=⟨_,rfl⟩
 replace H:(impl_minsOf.l0 k (wrap64 (t162 - 1)) (l0.length:Int) (kopy t166 (t162:Int).toNat l0)) = some (r1,r2):=by first|(rw [hy170];with_reducible exact H)|(have H2_:=(Option.bind_some _ _).symm.trans H;rw [hy170];with_reducible exact H2_)|(have H2_:=(Option.bind_some _ _).symm.trans H;with_reducible exact H2_)|with_reducible exact H|(rw [hy170];exact H)|exact H
 have Ny170:=mk0 hy170
 clear hy170
 obtain⟨y174,hy174⟩:∃ y_:List Int,y_ = (kopy t166 (t162:Int).toNat l0):=⟨_,rfl⟩
 replace H:(impl_minsOf.l0 k (wrap64 (t162 - 1)) (l0.length:Int) y174) = some (r1,r2):=by first|(rw [hy174];with_reducible exact H)|(have H2_:=(Option.bind_some _ _).symm.trans H;rw [hy174];with_reducible exact H2_)|(have H2_:=(Option.bind_some _ _).symm.trans H;with_reducible exact H2_)|with_reducible exact H|(rw [hy174];exact H)|exact H
 have Ny174:=mk0 hy174
 clear hy174
 have H':=mk0 H
 clear H
 go_enter Try.func39,Try.ntmps39
 go_wp2_with (first|((with_reducible refine gate_dst (N:=2) rfl ?_);refine box_event ?hg (N:=2) ?hd (cs:=#[.int .i64 0,.slice none 0 0]) (t:=24) ?hr ?_;(case hd=>rfl);(case hg=>rfl);(case hr=>first|(go_simp;done)|(go_simp;rfl));intro gb161 hg w6 hbox hb;have n0_:=mk0 (below_step (by repeat (first|(with_reducible first|exact HB.out|apply aZ|apply nZ|apply dZ)|exact HB.out)) hb);have n1_:=mk0 (hbox);have n2_:=mk0 ((by rw [hg];exact (below_size (by repeat (first|(with_reducible first|exact HB.out|apply aZ|apply nZ|apply dZ)|exact HB.out))):w.heap.size ≤ gb161));have n3_:=mk0 ((by rw [hg];exact (below_size (by repeat (first|(with_reducible first|exact HB.out|apply aZ|apply nZ|apply dZ)|exact HB.out))):w.heap.size ≤ gb161));clear HB;have HB:=n0_;have BK161:=n1_;have GW161:=n2_;have GE161:=n3_;clear n0_ n1_ n2_ n3_ hb hbox hg)|((with_reducible refine gate_callee (f:=56) rfl ?_);refine goesL_ (some 8) rfl rfl Try.func56 (by kernel_rfl) rfl #[.int .i64 (l0.length:Int)] rfl (by (try simp only [mA,mC,mN]);first|done|rfl|(simp only [List.length_drop,List.length_take];rfl)) ?_;(with_reducible refine (impl_leaves.calls k (l0.length:Int) t162 _ A2.out).mono ?_);rintro e w' ⟨rfl,⟨nd,rfl⟩⟩;refine⟨_,rfl,?_⟩;(try (rw [drewN_self w6];generalize hq_:World.drewN w6 _ = w6;have n0_:Aside0 (w6.heap[gb161]? = some (.cells #[.int .i64 0,.slice none 0 0] 24 (0,0))):=⟨by rw [← hq_];exact (by (with_reducible repeat (first|apply nB|apply dB|apply aB));exact BK161.out)⟩;have n1_:Aside0 (Below w.heap.size w w6):=⟨by rw [← hq_];exact (by repeat (first|(with_reducible first|exact HB.out|apply aZ|apply nZ|apply dZ|refine sZ ?_ GE161.out)|exact HB.out))⟩;clear BK161 HB hq_;have BK161:=n0_;have HB:=n1_;clear n0_ n1_)))|((with_reducible refine gate_dst (N:=11) rfl ?_);refine Kd.R_lit (Kd.int .i64) _ 3 ?hg (N:=11) ?hd (xs:=([1000000000]:List Int)) (inner:=[.int .i64 1000000000]) (ok:=fun _=>True) (okp:=fun _=>True) ?hr ?hp (fun _ hk=>hk) trivial (Below.refl _ _) (Nat.le_refl _) (by simp) ?_;(case hd=>rfl);(case hg=>rfl);(case hr=>first|(go_simp;done)|(go_simp;rfl));(case hp=>exact (Reps.one (show Kd.M (Kd.int .i64) _ _ _ 1000000000 [.int .i64 1000000000] from rfl) (Reps.none _ _)));intro v164 w7 ho8 hb hg_ hnew_;clear hg_ hnew_;(first|rw [← Ny163.out] at ho8|(simp only [Int.reduceToNat] at ho8;rw [← Ny163.out] at ho8));have n0_:=mk0 (Kd.R_lower ho8 (below_size (by repeat (first|(with_reducible first|exact HB.out|apply aZ|apply nZ|apply dZ|refine sZ ?_ GE161.out)|exact HB.out))));have n1_:=mk0 (blk_below (g:=gb161) (o:=.cells #[.int .i64 0,.slice none 0 0] 24 (0,0)) (by (with_reducible repeat (first|apply nB|apply dB|apply aB));exact BK161.out) hb);have n2_:=mk0 (below_step (by repeat (first|(with_reducible first|exact HB.out|apply aZ|apply nZ|apply dZ|refine sZ ?_ GE161.out)|exact HB.out)) hb);clear BK161 HB;have HO165:=n0_;have BK161:=n1_;have HB:=n2_;clear n0_ n1_ n2_ hb ho8;obtain⟨Ao9,co9,eo9⟩:=Kd.R_slice HO165.out;subst eo9)|((with_reducible refine gate_callee (f:=57) rfl ?_);refine goesL_ (some 14) rfl rfl Try.func57 (by kernel_rfl) rfl #[.slice Ao9 y163.length co9,.int .i64 (wrap64 (2 * t162))] rfl (by (try simp only [mA,mC,mN]);first|done|rfl|(simp only [List.length_drop,List.length_take];rfl)) ?_;(with_reducible refine (slices_Repeat_int_int.calls k _ _ y163 (wrap64 (2 * t162)) t166 _ ?side1 ?side2 A3.out).mono ?_);(case side1=>repeat (first|exact (Kd.R_reads' HO165.out).2.2|(with_reducible first|apply aC|apply nC|apply dC)));(case side2=>exact (Kd.R_reads' HO165.out).2.1);rintro e w10 ⟨v167,rfl,ho0,hb⟩;refine⟨_,rfl,?_⟩;have n0_:=mk0 (Kd.R_elder' (by (with_reducible repeat (first|apply aR|apply nR|apply dR));exact HO165.out) (Kd.R_base ho0) hb);have n1_:=mk0 (Kd.R_lower (Kd.R_new' ho0 (Kd.R_lt (by (with_reducible repeat (first|apply aR|apply nR|apply dR));exact HO165.out))) (below_size (by repeat (first|(with_reducible first|exact HB.out|apply aZ|apply nZ|apply dZ|refine sZ ?_ GE161.out)|exact HB.out))));have n2_:=mk0 (blk_below (g:=gb161) (o:=.cells #[.int .i64 0,.slice none 0 0] 24 (0,0)) (by (with_reducible repeat (first|apply nB|apply dB|apply aB));exact BK161.out) hb);have n3_:=mk0 (below_step (by repeat (first|(with_reducible first|exact HB.out|apply aZ|apply nZ|apply dZ|refine sZ ?_ GE161.out)|exact HB.out)) hb);clear HO165 BK161 HB;have HO165:=n0_;have HO168:=n1_;have BK161:=n2_;have HB:=n3_;clear n0_ n1_ n2_ n3_;(try clear hb);(try clear hb2);(try clear hk);(try clear hi);(try clear ho0);obtain⟨Ao11,co11,eo11⟩:=Kd.R_slice HO168.out;subst eo11)|((with_reducible refine gate_dst (N:=4) rfl ?_);refine box_event ?hg (N:=4) ?hd (cs:=#[.int .i64 0,.slice none 0 0]) (t:=24) ?hr ?_;(case hd=>rfl);(case hg=>rfl);(case hr=>first|(go_simp;done)|(go_simp;rfl));intro gb169 hg w12 hbox hb;have n0_:=mk0 (Kd.R_below (by (with_reducible repeat (first|apply aR|apply nR|apply dR));exact HO165.out) hb);have n1_:=mk0 (Kd.R_below (by (with_reducible repeat (first|apply aR|apply nR|apply dR));exact HO168.out) hb);have n2_:=mk0 (blk_below (g:=gb161) (o:=.cells #[.int .i64 0,.slice none 0 0] 24 (0,0)) (by (with_reducible repeat (first|apply nB|apply dB|apply aB));exact BK161.out) hb);have n3_:=mk0 (below_step (by repeat (first|(with_reducible first|exact HB.out|apply aZ|apply nZ|apply dZ|refine sZ ?_ GE161.out)|exact HB.out)) hb);have n4_:=mk0 (hbox);have n5_:=mk0 ((by rw [hg];exact (below_size (by repeat (first|(with_reducible first|exact HB.out|apply aZ|apply nZ|apply dZ|refine sZ ?_ GE161.out)|exact HB.out))):w.heap.size ≤ gb169));have n6_:=mk0 ((by rw [hg];exact (below_size (by repeat (first|(with_reducible first|exact HB.out|apply aZ|apply nZ|apply dZ|refine sZ ?_ GE161.out)|exact HB.out))):w.heap.size ≤ gb169));have n7_:=mk0 ((by rw [hg];exact Nat.ne_of_lt (blk_lt (g:=gb161) (o:=.cells #[.int .i64 0,.slice none 0 0] 24 (0,0)) (by (with_reducible repeat (first|apply nB|apply dB|apply aB));exact BK161.out)):gb161 ≠ gb169));have n8_:=mk0 ((by rw [hg];exact Nat.ne_of_gt (blk_lt (g:=gb161) (o:=.cells #[.int .i64 0,.slice none 0 0] 24 (0,0)) (by (with_reducible repeat (first|apply nB|apply dB|apply aB));exact BK161.out)):gb169 ≠ gb161));clear HO165 HO168 BK161 HB;have HO165:=n0_;have HO168:=n1_;have BK161:=n2_;have HB:=n3_;have BK169:=n4_;have GW169:=n5_;have GE169:=n6_;have NB161_169:=n7_;have NB169_161:=n8_;clear n0_ n1_ n2_ n3_ n4_ n5_ n6_ n7_ n8_ hb hbox hg;have hnb13:=NB169_161.out;have hnc13:=NB161_169.out;have hcz14_0:w12.cell? ⟨gb169,0,none⟩ = some (.int .i64 0):=(blk_cell BK169.out 0).trans rfl;have hcz14_1:w12.cell? ⟨gb169,1,none⟩ = some (.slice none 0 0):=(blk_cell BK169.out 1).trans rfl;have hfz14_0:=blk_frozen BK169.out 0;have hfz14_1:=blk_frozen BK169.out 1)|((with_reducible refine gate_store (t:=24) (p:=4) rfl ?_);refine store_event (t:=24) (p:=4) (v:=?vo_w15) (w1:=((w12.setCell ⟨gb169,0,none⟩ (.int .i64 (l0.length:Int))).setCell ⟨gb169,1,none⟩ (.slice Ao11 t166.length co11))) ?hg ?ho ?hn ?hr ?_;(case ho=>rfl);(case hg=>rfl);(case hn=>rfl);(case hr=>first|(go_simp;done)|(go_simp;rfl));intro w15 hw;have n0_:Aside0 (Kd.R (Kd.int .i64) 3 w15 w.heap.size (fun k_=>some k_ ≠ (.slice Ao11 t166.length co11:Value).ownBlock) (.slice Ao9 y163.length co9) y163):=⟨(by rw [hw];exact (by (with_reducible repeat (first|apply aR|apply nR|apply dR));exact Kd.R_mono (Kd.R_far (p:=⟨gb169,1,none⟩) (Kd.R_far (p:=⟨gb169,0,none⟩) (Kd.R_types HO165.out BK169.out (by decide)) (fun _ hk=>hk.2) (.int .i64 (l0.length:Int))) (fun _ hk=>hk.2) (.slice Ao11 t166.length co11)) (fun _ hk=>hk.1.2)))⟩;have n1_:Aside0 (Kd.R (Kd.int .i64) 3 w15 w.heap.size (fun k_=>some k_ ≠ (.slice Ao9 y163.length co9:Value).ownBlock) (.slice Ao11 t166.length co11) t166):=⟨(by rw [hw];exact (by (with_reducible repeat (first|apply aR|apply nR|apply dR));exact Kd.R_mono (Kd.R_far (p:=⟨gb169,1,none⟩) (Kd.R_far (p:=⟨gb169,0,none⟩) (Kd.R_types HO168.out BK169.out (by decide)) (fun _ hk=>hk.2) (.int .i64 (l0.length:Int))) (fun _ hk=>hk.2) (.slice Ao11 t166.length co11)) (fun _ hk=>hk.1.2)))⟩;have n2_:Aside0 (w15.heap[gb161]? = some (.cells #[.int .i64 0,.slice none 0 0] 24 (0,0))):=⟨(by rw [hw];exact (by (with_reducible repeat (first|apply nB|apply dB|apply aB));refine blk_far ?_ NB161_169.out _;(with_reducible repeat (first|apply nB|apply dB|apply aB));refine blk_far ?_ NB161_169.out _;(with_reducible repeat (first|apply nB|apply dB|apply aB));exact BK161.out))⟩;have n3_:Aside0 (w15.heap[gb169]? = some (.cells #[.int .i64 (l0.length:Int),.slice Ao11 t166.length co11] 24 (0,0))):=⟨(by rw [hw];exact (by (with_reducible repeat (first|apply nB|apply dB|apply aB));refine blk_put (cs:=#[.int .i64 (l0.length:Int),.slice none 0 0]) ?_ 1 _ rfl;(with_reducible repeat (first|apply nB|apply dB|apply aB));refine blk_put (cs:=#[.int .i64 0,.slice none 0 0]) ?_ 0 _ rfl;(with_reducible repeat (first|apply nB|apply dB|apply aB));exact BK169.out))⟩;have n4_:Aside0 (Below w.heap.size w w15):=⟨(by rw [hw];exact (by repeat (first|(with_reducible first|exact HB.out|apply aZ|apply nZ|apply dZ|refine sZ ?_ GE161.out|refine sZ ?_ GE169.out)|exact HB.out)))⟩;clear hw HO165 HO168 BK161 BK169 HB;have HO165:=n0_;have HO168:=n1_;have BK161:=n2_;have BK169:=n3_;have HB:=n4_;clear n0_ n1_ n2_ n3_ n4_;have hcz16_0:w15.cell? ⟨gb169,0,none⟩ = some (.int .i64 (l0.length:Int)):=(blk_cell BK169.out 0).trans rfl;have hcz16_1:w15.cell? ⟨gb169,1,none⟩ = some (.slice Ao11 t166.length co11):=(blk_cell BK169.out 1).trans rfl;have hfz16_0:=blk_frozen BK169.out 0;have hfz16_1:=blk_frozen BK169.out 1;have q17:(t162:Int) ≤ ((t166.length:Int):Int):=of_decide_eq_true (by first|(with_reducible assumption)|assumption);obtain⟨i017,hi017,_,hsz17,_⟩:=info_parts info3;have hroom17:t166.length ≤ co11:=(Kd.R_reads' HO168.out).2.1;have hC17:Kd.C (Kd.int .i64) _ Ao11 t166.length t166:=(Kd.R_reads' HO168.out).2.2;have q017:(0:Int) ≤ (t162:Int):=of_decide_eq_true (by first|(with_reducible assumption)|assumption);have hcut17:=cut_from (P:=Try.prog) 22 3 .i64 Try.underlying22 hi017 1 hsz17 Ao11 t166.length co11 t162 q017 q17;have hr17:=Kd.C_drop (m:=(t162:Int).toNat) (c:=co11) hC17 (by omega) hroom17;obtain⟨A17,hA17⟩:∃ A1,A1 = (if co11 = (t162:Int).toNat then Ao11 else (Ao11:Option Addr).map (·.add ((t162:Int).toNat * 1))):=⟨_,rfl⟩;obtain⟨c17,hc17⟩:∃ c1,c1 = co11 - (t162:Int).toNat:=⟨_,rfl⟩;have hy17:y170.length = t166.length - (t162:Int).toNat:=(by rw [Ny170.out,List.length_drop] <;> omega);rw [show (t166).drop (t162:Int).toNat = y170 from Ny170.out.symm] at hr17;replace hr17:Kd.C (Kd.int .i64) _ A17 y170.length y170:=(by rw [hA17];exact hr17);rw [← hy17, ← hA17, ← hc17] at hcut17;have HR173:=mk0 hr17;have HC173:=mk0 (show y170.length ≤ c17 from by rw [hy17,hc17];exact Nat.sub_le_sub_right hroom17 _);clear hr17 hC17 hroom17 hi017 hsz17 hc17;have KY17:=mk0 hy17;have KA17:=mk0 hA17;clear hy17 hA17;have KL17:=mk0 (show (t162:Int).toNat ≤ t166.length from by omega);replace q17:=eq_true q17)|((with_reducible refine gate_builtin (b:=.copy) (xs:=#[.tmp 19,.tmp 20]) rfl ?_);refine R_copyin (enc:=(Value.int .i64)) (h1:=fun _=>rfl) 0 (w0:=w) w.heap.size rfl (.tmp 19) (.tmp 20) 22 22 3 rfl Try.underlying22 (by kernel_rfl) (n:=t166.length) (c:=co11) (k:=(t162:Int).toNat) (xs:=t166) (ys:=l0) rfl rfl ?hA ?hm (by (with_reducible repeat (first|apply aR|apply nR|apply dR));exact HO168.out) ?hk ?hS (by repeat (first|(with_reducible first|exact HB.out|apply aZ|apply nZ|apply dZ|refine sZ ?_ GE161.out|refine sZ ?_ GE169.out)|exact HB.out)) (below_size (by repeat (first|(with_reducible first|exact HB.out|apply aZ|apply nZ|apply dZ|refine sZ ?_ GE161.out|refine sZ ?_ GE169.out)|exact HB.out))) ?_;(case hA=>exact KA17.out);(case hm=>exact KY17.out);(case hk=>exact KL17.out);(case hS=>repeat (first|exact (Kd.C_below HR0.out HB.out)|(with_reducible first|apply aC|apply nC|apply dC)));intro w18 ho hb hg;have hp_:Kd.R (Kd.int .i64) 3 w18 w.heap.size (fun k_=>some k_ ≠ (.slice Ao9 y163.length co9:Value).ownBlock) (.slice Ao11 t166.length co11) y174:=(by rw [Ny174.out];exact ho);clear ho;have n0_:=mk0 (blk_grown (g:=gb161) (o:=.cells #[.int .i64 0,.slice none 0 0] 24 (0,0)) (by (with_reducible repeat (first|apply nB|apply dB|apply aB));exact BK161.out) hg (Kd.R_ne HO168.out BK161.out (by decide)));have n1_:=mk0 (Kd.R_after (v:=(.slice Ao11 t166.length co11)) (v1:=(.slice Ao11 t166.length co11)) (ok:=(fun _=>True)) (by (with_reducible repeat (first|apply aR|apply nR|apply dR));exact Kd.R_mono HO165.out (fun _ hk=>⟨trivial,hk⟩)) hg (.inl rfl));have n2_:=mk0 (hp_);have n3_:=mk0 (blk_grown (g:=gb169) (o:=.cells #[.int .i64 (l0.length:Int),.slice Ao11 t166.length co11] 24 (0,0)) (by (with_reducible repeat (first|apply nB|apply dB|apply aB));exact BK169.out) hg (Kd.R_ne HO168.out BK169.out (by decide)));have n4_:=mk0 (hb);clear BK161 HO165 HO168 BK169 HB;have BK161:=n0_;have HO165:=n1_;have HO168:=n2_;have BK169:=n3_;have HB:=n4_;clear n0_ n1_ n2_ n3_ n4_ hg hp_ hb))
 go_loopg [5] k (fun kq v5 w'=>∃ (x5_1:Int) (x170001_1:List Int) (u170001:Value),v5 = .int .i64 x5_1 ∧ Aside0 (impl_minsOf.l0 kq x5_1 (l0.length:Int) x170001_1 = some (r1,r2)) ∧ Aside0 (kq ≤ k) ∧ Aside0 (Kd.R (Kd.int .i64) 3 w' w.heap.size (fun _=>True) u170001 x170001_1) ∧ Aside0 (w'.heap[gb161]? = some (.cells #[.int .i64 0,(.slice none 0 0)] 24 (0,0))) ∧ Aside0 (w'.heap[gb169]? = some (.cells #[.int .i64 (l0.length:Int),u170001] 24 (0,0))) ∧ Aside0 (Below w.heap.size w w'))
 case atStart=>exact⟨(wrap64 (t162 - 1)),(y174),(.slice Ao11 t166.length co11),(by first|rfl|(simp;done)|(simp [*];done)),H',⟨Nat.le_refl _⟩,⟨by (with_reducible repeat (first|apply aR|apply nR|apply dR));exact Kd.R_mono HO168.out (fun _ hk=>trivial)⟩,⟨by (with_reducible repeat (first|apply nB|apply dB|apply aB));exact BK161.out⟩,⟨by (with_reducible repeat (first|apply nB|apply dB|apply aB));exact BK169.out⟩,⟨by repeat (first|(with_reducible first|exact HB.out|apply aZ|apply nZ|apply dZ|refine sZ ?_ GE161.out|refine sZ ?_ GE169.out)|exact HB.out)⟩⟩
 case round =>
  clear H'
  try clear c1
  try clear q1
  try clear p2
  try clear c3
  try clear c4
  try clear c4b0
  try clear c4b1
  try clear c5
  try clear c5b0
  try clear c5b1
  try clear p6
  try clear c13
  try clear c17
  try clear q17
  try clear hcz14_0
  try clear hcz14_1
  try clear hcz16_0
  try clear hcz16_1
  try clear hfz14_0
  try clear hfz14_1
  try clear hfz16_0
  try clear hfz16_1
  try clear q017
  try clear q17
  obtain⟨x5_1,x170001_1,u170001,rfl,HA,HK1,HO_170001,BK161,BK169,HB⟩:=hrel
  cases gk with
  | zero=>exact absurd HA.out (by simp [impl_minsOf.l0])
  | succ k1 =>
   have H:=HA.out
   clear HA
   simp only [impl_minsOf.l0] at H
   by_cases c20:x5_1 > 0
   rotate_left
   ·rw [if_neg c20] at H
    have c20b0:decide (0 < x5_1) = false:=decide_eq_false c20
    clear c20
    by_cases c34:0 < (x170001_1.length:Int)
    rotate_left
    ·rw [if_neg c34] at H
     exact absurd H (by simp)
    rw [if_pos c34] at H
    have c34b0:decide (0 < (x170001_1.length:Int)) = true:=decide_eq_true c34
    have c34b1:decide (0 < x170001_1.length) = true:=decide_eq_true (by omega)
    clear c34
    obtain⟨y178,hy178⟩:∃ y_:List Int,y_ = (x170001_1.set (0:Int).toNat 0):=⟨_,rfl⟩
    replace H:(some ((l0.length:Int),y178)) = some (r1,r2):=by first|(rw [hy178];with_reducible exact H)|(have H2_:=(Option.bind_some _ _).symm.trans H;rw [hy178];with_reducible exact H2_)|(have H2_:=(Option.bind_some _ _).symm.trans H;with_reducible exact H2_)|with_reducible exact H|(rw [hy178];exact H)|exact H
    have Ny178:=mk0 hy178
    clear hy178
    simp only [Option.some.injEq,Prod.mk.injEq] at H
    obtain⟨rfl,rfl⟩:=H
    have hnb36:=NB169_161.out
    have hnc36:=NB161_169.out
    have hcz37_0:wr.cell? ⟨gb169,0,none⟩ = some (.int .i64 (l0.length:Int)):=(blk_cell BK169.out 0).trans rfl
    have hcz37_1:wr.cell? ⟨gb169,1,none⟩ = some (u170001):=(blk_cell BK169.out 1).trans rfl
    have hfz37_0:=blk_frozen BK169.out 0
    have hfz37_1:=blk_frozen BK169.out 1
    have p35:0 ≤ (0:Int):=(by omega)
    have q35:(0:Int) < ((x170001_1.length:Int):Int):=of_decide_eq_true (by first|(with_reducible assumption)|assumption)
    have qi35:(0 < x170001_1.length) = True:=eq_true (by omega)
    obtain⟨go35,co35,eo35,gb35,gl35,cl35,HG35⟩:=Kd.R_form HO_170001.out (by omega)
    (first|cases eo35|(injection eo35 with ea_ en_ ec_;(first|subst ea_|(injection ea_ with ea_;subst ea_));subst ec_;clear en_))
    have GB35:=mk0 gb35
    have GG35:=mk0 HG35
    clear gb35 gl35 HG35
    obtain⟨hx35_0,hf35_0⟩:=Kd.R_celln 0 HO_170001.out (0:Int) p35 q35
    (try rw [show ((0:Int)).toNat = 0 from rfl] at hx35_0)
    (try simp only [Nat.reduceMul,Nat.zero_mul,Nat.zero_add,Nat.reduceAdd] at hx35_0)
    (try rw [show ((0:Int)).toNat = 0 from rfl] at hf35_0)
    (try simp only [Nat.reduceMul,Nat.zero_mul,Nat.zero_add,Nat.reduceAdd] at hf35_0)
    replace p35:=eq_true p35
    replace q35:=eq_true q35
    have HP38:=Kd.R_putg HO_170001.out (0:Int) 0
    go_wp2_with (first|((with_reducible refine gate_store (t:=3) (p:=48) rfl ?_);refine store_event (t:=3) (p:=48) (v:=?vo_w39) (w1:=(wr.setCell ⟨go35,(0:Int).toNat,none⟩ (.int .i64 0))) ?hg ?ho ?hn ?hr ?_;(case ho=>rfl);(case hg=>rfl);(case hn=>rfl);(case hr=>first|(go_simp;done)|(go_simp;rfl));intro w39 hw;have hg:wr.grownBy w39 (some go35):=(by rw [hw];exact HP38.2);have hp_:Kd.R (Kd.int .i64) 3 w39 w.heap.size (fun _=>True) (.slice (some ⟨go35,0,none⟩) x170001_1.length co35) y178:=(by rw [hw,Ny178.out];exact HP38.1);clear HP38;have n0_:=mk0 (hp_);have n1_:=mk0 (blk_grown (g:=gb161) (o:=.cells #[.int .i64 0,.slice none 0 0] 24 (0,0)) (by (with_reducible repeat (first|apply nB|apply dB|apply aB));exact BK161.out) hg (Kd.R_ne HO_170001.out BK161.out (by decide)));have n2_:=mk0 (blk_grown (g:=gb169) (o:=.cells #[.int .i64 (l0.length:Int),.slice (some ⟨go35,0,none⟩) x170001_1.length co35] 24 (0,0)) (by (with_reducible repeat (first|apply nB|apply dB|apply aB));exact BK169.out) hg (Kd.R_ne HO_170001.out BK169.out (by decide)));have n3_:=mk0 ((by rw [hw];exact sZ (HB.out) GB35.out:Below w.heap.size w w39));clear HO_170001 BK161 BK169 HB;have HO_170001:=n0_;have BK161:=n1_;have BK169:=n2_;have HB:=n3_;clear n0_ n1_ n2_ n3_ hg hw hp_;have hcz40_0:w39.cell? ⟨gb169,0,none⟩ = some (.int .i64 (l0.length:Int)):=(blk_cell BK169.out 0).trans rfl;have hcz40_1:w39.cell? ⟨gb169,1,none⟩ = some (.slice (some ⟨go35,0,none⟩) x170001_1.length co35):=(blk_cell BK169.out 1).trans rfl;have hfz40_0:=blk_frozen BK169.out 0;have hfz40_1:=blk_frozen BK169.out 1;have hcz41_0:w39.cell? ⟨gb161,0,none⟩ = some (.int .i64 0):=(blk_cell BK161.out 0).trans rfl;have hcz41_1:w39.cell? ⟨gb161,1,none⟩ = some (.slice none 0 0):=(blk_cell BK161.out 1).trans rfl;have hfz41_0:=blk_frozen BK161.out 0;have hfz41_1:=blk_frozen BK161.out 1))
    refine bodyPost_ret (results_cell_row rfl _ _ gb161 24 #[.int .i64 (l0.length:Int),.slice (some ⟨go35,0,none⟩) x170001_1.length co35] (0,0) _ rfl (by (with_reducible repeat (first|apply nB|apply dB|apply aB));refine blk_put (cs:=#[.int .i64 (l0.length:Int),.slice none 0 0]) ?_ 1 _ rfl;(with_reducible repeat (first|apply nB|apply dB|apply aB));refine blk_put (cs:=#[.int .i64 0,.slice none 0 0]) ?_ 0 _ rfl;(with_reducible repeat (first|apply nB|apply dB|apply aB));exact BK161.out) Try.underlying24 rfl (by kernel_rfl)) rfl ?_
    exact⟨_,by first|rfl|(simp [errW_none,errW_some] <;> rfl)|(simp [*,errW_none,errW_some] <;> rfl),by (with_reducible repeat (first|apply aR|apply nR|apply dR));exact Kd.R_mono (Kd.R_far (p:=⟨gb161,1,none⟩) (Kd.R_far (p:=⟨gb161,0,none⟩) (Kd.R_types HO_170001.out BK161.out (by decide)) (fun _ hk=>hk.2) (.int .i64 (l0.length:Int))) (fun _ hk=>hk.2) (.slice (some ⟨go35,0,none⟩) x170001_1.length co35)) (fun _ hk=>trivial),by repeat (first|(with_reducible first|exact HB.out|apply aZ|apply nZ|apply dZ|refine sZ ?_ GE161.out|refine sZ ?_ GE169.out)|exact HB.out)⟩
   rw [if_pos c20] at H
   have c20b0:decide (0 < x5_1) = true:=decide_eq_true c20
   clear c20
   obtain⟨ji21,hji21⟩:∃ j_:Int,(wrap64 (2 * x5_1)) = j_:=⟨_,rfl⟩
   replace H:(if 0 ≤ (ji21) then (if (ji21) < (x170001_1.length:Int) then (if 0 ≤ (wrap64 ((ji21) + 1)) then (if (wrap64 ((ji21) + 1)) < (x170001_1.length:Int) then (if 0 ≤ x5_1 then (if x5_1 < (x170001_1.length:Int) then (impl_minsOf.l0 k1 (wrap64 (x5_1 - 1)) (l0.length:Int) (x170001_1.set (x5_1:Int).toNat (mn (rd x170001_1 (ji21)) (rd x170001_1 (wrap64 ((ji21) + 1)))))) else (none)) else (none)) else (none)) else (none)) else (none)) else (none)) = some (r1,r2):=by first|(rw [hji21] at H;exact H)|(simp only [hji21] at H ⊢;exact H)
   have hji21w:(IntKind.i64.wrap (2 * x5_1)) = ji21:=(i64_w _).trans hji21
   by_cases c22:0 ≤ (ji21)
   rotate_left
   ·rw [if_neg c22] at H
    exact absurd H (by simp)
   rw [if_pos c22] at H
   have c22b0:decide (0 ≤ (ji21)) = true:=decide_eq_true c22
   clear c22
   by_cases c23:(ji21) < (x170001_1.length:Int)
   rotate_left
   ·rw [if_neg c23] at H
    exact absurd H (by simp)
   rw [if_pos c23] at H
   have c23b0:decide ((ji21) < (x170001_1.length:Int)) = true:=decide_eq_true c23
   clear c23
   obtain⟨ji24,hji24⟩:∃ j_:Int,(wrap64 ((ji21) + 1)) = j_:=⟨_,rfl⟩
   replace H:(if 0 ≤ (ji24) then (if (ji24) < (x170001_1.length:Int) then (if 0 ≤ x5_1 then (if x5_1 < (x170001_1.length:Int) then (impl_minsOf.l0 k1 (wrap64 (x5_1 - 1)) (l0.length:Int) (x170001_1.set (x5_1:Int).toNat (mn (rd x170001_1 (ji21)) (rd x170001_1 (ji24))))) else (none)) else (none)) else (none)) else (none)) = some (r1,r2):=by first|(rw [hji24] at H;exact H)|(simp only [hji24] at H ⊢;exact H)
   have hji24w:(IntKind.i64.wrap ((ji21) + 1)) = ji24:=(i64_w _).trans hji24
   by_cases c25:0 ≤ (ji24)
   rotate_left
   ·rw [if_neg c25] at H
    exact absurd H (by simp)
   rw [if_pos c25] at H
   have c25b0:decide (0 ≤ (ji24)) = true:=decide_eq_true c25
   clear c25
   by_cases c26:(ji24) < (x170001_1.length:Int)
   rotate_left
   ·rw [if_neg c26] at H
    exact absurd H (by simp)
   rw [if_pos c26] at H
   have c26b0:decide ((ji24) < (x170001_1.length:Int)) = true:=decide_eq_true c26
   clear c26
   obtain⟨ji27,hji27⟩:∃ j_:Int,(mn (rd x170001_1 (ji21)) (rd x170001_1 (ji24))) = j_:=⟨_,rfl⟩
   replace H:(if 0 ≤ x5_1 then (if x5_1 < (x170001_1.length:Int) then (impl_minsOf.l0 k1 (wrap64 (x5_1 - 1)) (l0.length:Int) (x170001_1.set (x5_1:Int).toNat (ji27))) else (none)) else (none)) = some (r1,r2):=by first|(rw [hji27] at H;exact H)|(simp only [hji27] at H ⊢;exact H)
   have hji27_:(if (rd x170001_1 (ji24)) < (rd x170001_1 (ji21)) then (rd x170001_1 (ji24)) else (rd x170001_1 (ji21))) = ji27:=hji27
   by_cases c28:0 ≤ x5_1
   rotate_left
   ·rw [if_neg c28] at H
    exact absurd H (by simp)
   rw [if_pos c28] at H
   have c28b0:decide (0 ≤ x5_1) = true:=decide_eq_true c28
   clear c28
   by_cases c29:x5_1 < (x170001_1.length:Int)
   rotate_left
   ·rw [if_neg c29] at H
    exact absurd H (by simp)
   rw [if_pos c29] at H
   have c29b0:decide (x5_1 < (x170001_1.length:Int)) = true:=decide_eq_true c29
   clear c29
   obtain⟨y177,hy177⟩:∃ y_:List Int,y_ = (x170001_1.set (x5_1:Int).toNat (ji27)):=⟨_,rfl⟩
   replace H:(impl_minsOf.l0 k1 (wrap64 (x5_1 - 1)) (l0.length:Int) y177) = some (r1,r2):=by first|(rw [hy177];with_reducible exact H)|(have H2_:=(Option.bind_some _ _).symm.trans H;rw [hy177];with_reducible exact H2_)|(have H2_:=(Option.bind_some _ _).symm.trans H;with_reducible exact H2_)|with_reducible exact H|(rw [hy177];exact H)|exact H
   have Ny177:=mk0 hy177
   clear hy177
   have H':=mk0 H
   clear H
   try go_wp2
   have n0_:=mk0 (dR HO_170001.out)
   have n1_:=mk0 (dB BK161.out)
   have n2_:=mk0 (dB BK169.out)
   have n3_:=mk0 (dZ HB.out)
   clear HO_170001
   clear BK161
   clear BK169
   clear HB
   have HO_170001:=n0_
   have BK161:=n1_
   have BK169:=n2_
   have HB:=n3_
   clear n0_ n1_ n2_ n3_
   obtain⟨Ao32,co32,eo32⟩:=Kd.R_slice HO_170001.out
   (first|subst eo32|(injection eo32 with f1_ f2_ f3_;have f4_:=f1_.symm;have f5_:=f3_.symm;clear f1_ f2_ f3_;subst f4_;subst f5_))
   have p175:0 ≤ ((ji21):Int):=of_decide_eq_true (by first|(with_reducible assumption)|assumption)
   have q175:(ji21) < (x170001_1.length:Int):=of_decide_eq_true (by first|(with_reducible assumption)|assumption)
   obtain⟨ad175,e175,hx175_0⟩:=Kd.at_int (Kd.R_reads' HO_170001.out).2.2 (ji21) p175 q175
   cases e175
   replace p175:=eq_true p175
   replace q175:=eq_true q175
   have p176:0 ≤ ((ji24):Int):=of_decide_eq_true (by first|(with_reducible assumption)|assumption)
   have q176:(ji24) < (x170001_1.length:Int):=of_decide_eq_true (by first|(with_reducible assumption)|assumption)
   obtain⟨ad176,e176,hx176_0⟩:=Kd.at_int (Kd.R_reads' HO_170001.out).2.2 (ji24) p176 q176
   obtain rfl:ad175 = ad176:=(by injection e176)
   replace p176:=eq_true p176
   replace q176:=eq_true q176
   have p30:0 ≤ (x5_1:Int):=of_decide_eq_true (by first|(with_reducible assumption)|assumption)
   have q30:(x5_1:Int) < ((x170001_1.length:Int):Int):=of_decide_eq_true (by first|(with_reducible assumption)|assumption)
   obtain⟨go30,co30,eo30,gb30,gl30,cl30,HG30⟩:=Kd.R_form HO_170001.out (by omega)
   (first|cases eo30|(injection eo30 with ea_ en_ ec_;(first|subst ea_|(injection ea_ with ea_;subst ea_));subst ec_;clear en_))
   have GB30:=mk0 gb30
   have GG30:=mk0 HG30
   clear gb30 gl30 HG30
   (first|simp only [add_plain] at hx175_0|skip)
   (first|simp only [add_plain] at hx176_0|skip)
   obtain⟨hx30_0,hf30_0⟩:=Kd.R_celln 0 HO_170001.out (x5_1:Int) p30 q30
   replace p30:=eq_true p30
   replace q30:=eq_true q30
   have HP33:=Kd.R_putn HO_170001.out (x5_1:Int) ji27
   rw [← Ny177.out] at HP33
   have HQ33:=mk0 HP33
   clear HP33
   refine start_ (n:=19) (S:=fun w'=>w'.cell? ⟨gb169,0,none⟩ = some (.int .i64 (l0.length:Int)) ∧ w'.cell? ⟨gb169,1,none⟩ = some (.slice (some ⟨go30,0,none⟩) x170001_1.length co32) ∧ w'.cell? ⟨go30,((ji21)).toNat,none⟩ = some (.int .i64 (rd x170001_1 (ji21))) ∧ w'.cell? ⟨go30,((ji24)).toNat,none⟩ = some (.int .i64 (rd x170001_1 (ji24)))) (ds:=[18]) impl_minsOf.m0 (by kernel_rfl) rfl rfl ⟨(blk_cell BK169.out 0).trans rfl,(blk_cell BK169.out 1).trans rfl,hx175_0,hx176_0⟩ (fun hHeld=>?_);refine with_tabW impl_minsOf.tab7 impl_minsOf.bits7 (fun HT_ HW_=>?_)
   generalize wr.drew = w31 at HO_170001 BK161 BK169 HB GG30 HQ33 hf30_0 hx175_0 hx176_0 hx30_0 hHeld ⊢
   refine pure_ (i:=0) (N:=some 28) (v:=?_) (a':=?_) impl_minsOf.m1 rfl rfl (any_of HT_.out (by kernel_rfl)) (fun _ _ _ h=>h) (Or.inl ⟨by rfl,?_⟩) ?_ ?_
   rotate_left
   ·intro w'
    go_simp
    with_reducible rfl
   rotate_left
   ·simp only [Act.put,sA,sO,sS,i64_w,i32_w]
    rfl
   refine pure_ (i:=2) (N:=some 30) (v:=?_) (a':=?_) impl_minsOf.m2 rfl rfl (any_of HT_.out (by kernel_rfl)) (fun _ _ _ h=>h) (Or.inl ⟨by rfl,?_⟩) ?_ ?_
   rotate_left
   ·intro w'
    go_simp
    with_reducible rfl
   rotate_left
   ·simp only [Act.put,sA,sO,sS,i64_w,i32_w]
    rfl
   refine pure_ (i:=3) (N:=some 31) (v:=?_) (a':=?_) impl_minsOf.m3 rfl rfl (any_of HT_.out (by kernel_rfl)) (fun _ _ _ h=>h) (Or.inl ⟨by rfl,?_⟩) ?_ ?_
   rotate_left
   ·intro w'
    go_simp
    with_reducible rfl
   rotate_left
   ·simp only [Act.put,sA,sO,sS,i64_w,i32_w]
    rfl
   refine pure_ (i:=5) (N:=some 33) (v:=?_) (a':=?_) impl_minsOf.m4 rfl rfl (any_of HT_.out (by kernel_rfl)) (fun _ _ _ h=>h) (Or.inl ⟨by rfl,?_⟩) ?_ ?_
   rotate_left
   ·intro w'
    go_simp
    with_reducible rfl
   rotate_left
   ·simp only [Act.put,sA,sO,sS,i64_w,i32_w]
    rfl
   refine pure_ (i:=6) (N:=some 34) (v:=?_) (a':=?_) impl_minsOf.m5 rfl rfl (any_of HT_.out (by kernel_rfl)) (fun _ _ _ h=>h) (Or.inl ⟨by rfl,?_⟩) ?_ ?_
   rotate_left
   ·intro w'
    go_simp
    with_reducible rfl
   rotate_left
   ·simp only [Act.put,sA,sO,sS,i64_w,i32_w]
    rfl
   refine pure_ (i:=9) (N:=some 37) (v:=?_) (a':=?_) impl_minsOf.m6 rfl rfl (any_of HT_.out (by kernel_rfl)) (fun _ _ _ h=>h) (Or.inl ⟨by rfl,?_⟩) ?_ ?_
   rotate_left
   ·intro w'
    go_simp
    with_reducible rfl
   rotate_left
   ·simp only [Act.put,sA,sO,sS,i64_w,i32_w]
    rfl
   refine pure_ (i:=11) (N:=some 39) (v:=?_) (a':=?_) impl_minsOf.m7 rfl rfl (any_of HT_.out (by kernel_rfl)) (fun _ _ _ h=>h) (Or.inl ⟨by rfl,?_⟩) ?_ ?_
   rotate_left
   ·intro w'
    go_simp
    with_reducible rfl
   rotate_left
   ·simp only [Act.put,sA,sO,sS,i64_w,i32_w]
    rfl
   refine pure_ (i:=12) (N:=some 40) (v:=?_) (a':=?_) impl_minsOf.m8 rfl rfl (any_of HT_.out (by kernel_rfl)) (fun _ _ _ h=>h) (Or.inl ⟨by rfl,?_⟩) ?_ ?_
   rotate_left
   ·intro w'
    go_simp
    with_reducible rfl
   rotate_left
   ·simp only [Act.put,sA,sO,sS,i64_w,i32_w]
    rfl
   refine pure_ (i:=13) (N:=some 41) (v:=?_) (a':=?_) impl_minsOf.m9 rfl rfl (any_of HT_.out (by kernel_rfl)) (fun _ _ _ h=>h) (Or.inl ⟨by rfl,?_⟩) ?_ ?_
   rotate_left
   ·intro w'
    go_simp
    with_reducible rfl
   rotate_left
   ·simp only [Act.put,sA,sO,sS,i64_w,i32_w]
    rfl
   refine take_ (i:=1) (N:=some 29) (v:=?_) (a':=?_) impl_minsOf.m10 rfl rfl (take_ofW HT_.out HW_.out (by kernel_rfl)) (fun _ _ _ h=>h) (Or.inl ⟨by rfl,?_⟩) hHeld ?_ ?_
   rotate_left
   ·rintro w' ⟨s0,s1,s2,s3⟩
    go_simp
    with_reducible rfl
   rotate_left
   ·simp only [Act.put,sA,sO,sS,i64_w,i32_w]
    rfl
   refine take_ (i:=4) (N:=some 32) (v:=?_) (a':=?_) impl_minsOf.m11 rfl rfl (take_ofW HT_.out HW_.out (by kernel_rfl)) (fun _ _ _ h=>h) (Or.inl ⟨by rfl,?_⟩) hHeld ?_ ?_
   rotate_left
   ·rintro w' ⟨s0,s1,s2,s3⟩
    go_simp
    with_reducible rfl
   rotate_left
   ·simp only [Act.put,sA,sO,sS,i64_w,i32_w]
    rfl
   refine pure_ (i:=7) (N:=some 35) (v:=?_) (a':=?_) impl_minsOf.m12 rfl rfl (any_of HT_.out (by kernel_rfl)) (fun _ _ _ h=>h) (Or.inl ⟨by rfl,?_⟩) ?_ ?_
   rotate_left
   ·intro w'
    go_simp
    with_reducible rfl
   rotate_left
   ·simp only [Act.put,sA,sO,sS,i64_w,i32_w]
    rfl
   refine take_ (i:=8) (N:=some 36) (v:=?_) (a':=?_) impl_minsOf.m13 rfl rfl (take_ofW HT_.out HW_.out (by kernel_rfl)) (fun _ _ _ h=>h) (Or.inl ⟨by rfl,?_⟩) hHeld ?_ ?_
   rotate_left
   ·rintro w' ⟨s0,s1,s2,s3⟩
    go_simp
    with_reducible rfl
   rotate_left
   ·simp only [Act.put,sA,sO,sS,i64_w,i32_w]
    rfl
   refine take_ (i:=10) (N:=some 38) (v:=?_) (a':=?_) impl_minsOf.m14 rfl rfl (take_ofW HT_.out HW_.out (by kernel_rfl)) (fun _ _ _ h=>h) (Or.inl ⟨by rfl,?_⟩) hHeld ?_ ?_
   rotate_left
   ·rintro w' ⟨s0,s1,s2,s3⟩
    go_simp
    with_reducible rfl
   rotate_left
   ·simp only [Act.put,sA,sO,sS,i64_w,i32_w]
    rfl
   refine pure_ (i:=14) (N:=some 42) (v:=?_) (a':=?_) impl_minsOf.m15 rfl rfl (any_of HT_.out (by kernel_rfl)) (fun _ _ _ h=>h) (Or.inl ⟨by rfl,?_⟩) ?_ ?_
   rotate_left
   ·intro w'
    go_simp
    with_reducible rfl
   rotate_left
   ·simp only [Act.put,sA,sO,sS,i64_w,i32_w]
    rfl
   refine take_ (i:=15) (N:=some 43) (v:=?_) (a':=?_) impl_minsOf.m16 rfl rfl (take_ofW HT_.out HW_.out (by kernel_rfl)) (fun _ _ _ h=>h) (Or.inl ⟨by rfl,?_⟩) hHeld ?_ ?_
   rotate_left
   ·rintro w' ⟨s0,s1,s2,s3⟩
    go_simp
    with_reducible rfl
   rotate_left
   ·simp only [Act.put,sA,sO,sS,i64_w,i32_w]
    rfl
   refine pure_ (i:=16) (N:=some 44) (v:=?_) (a':=?_) impl_minsOf.m17 rfl rfl (any_of HT_.out (by kernel_rfl)) (fun _ _ _ h=>h) (Or.inl ⟨by rfl,?_⟩) ?_ ?_
   rotate_left
   ·intro w'
    go_simp
    with_reducible rfl
   rotate_left
   ·simp only [Act.put,sA,sO,sS,i64_w,i32_w]
    rfl
   refine pure_ (i:=17) (N:=some 45) (v:=?_) (a':=?_) impl_minsOf.m18 rfl rfl (any_of HT_.out (by kernel_rfl)) (fun _ _ _ h=>h) (Or.inl ⟨by rfl,?_⟩) ?_ ?_
   rotate_left
   ·intro w'
    go_simp
    with_reducible rfl
   rotate_left
   ·simp only [Act.put,sA,sO,sS,i64_w,i32_w]
    rfl
   refine last_ (i:=18) (N:=none) impl_minsOf.m19 rfl rfl (one_of HT_.out (by kernel_rfl)) (by decide) (fun K hK=>?_)
   refine skip_ (w1:=?_) (by rfl) rfl ?_ ?_
   rotate_left
   ·go_simp
    rfl
   refine hK.out _ _ ?_
   clear hK K
   refine done_ (done_of HT_.out (by kernel_rfl)) ?_
   try go_wp2
   go_roundg k1
   case measure=>have:=HK1.out;omega
   case rel=>exact⟨(wrap64 (x5_1 - 1)),(y177),(.slice (some ⟨go30,0,none⟩) x170001_1.length co32),(by first|rfl|(simp;done)|(simp [*];done)),H',⟨by have:=HK1.out;omega⟩,⟨by (with_reducible repeat (first|apply aR|apply nR|apply dR));exact HQ33.out⟩,⟨by (with_reducible repeat (first|apply nB|apply dB|apply aB));refine blk_far ?_ (by have h_:=Kd.R_ne HO_170001.out BK161.out (by decide);intro e_;exact h_ (by rw [e_];rfl)) _;(with_reducible repeat (first|apply nB|apply dB|apply aB));exact BK161.out⟩,⟨by (with_reducible repeat (first|apply nB|apply dB|apply aB));refine blk_far ?_ (by have h_:=Kd.R_ne HO_170001.out BK169.out (by decide);intro e_;exact h_ (by rw [e_];rfl)) _;(with_reducible repeat (first|apply nB|apply dB|apply aB));exact BK169.out⟩,⟨by repeat (first|(with_reducible first|exact HB.out|apply aZ|apply nZ|apply dZ|refine sZ ?_ GB30.out|refine sZ ?_ GE161.out|refine sZ ?_ GE169.out)|exact HB.out)⟩⟩
end Go.Proofs.Ytpheodpcppclaaa.QFnMinsSet
