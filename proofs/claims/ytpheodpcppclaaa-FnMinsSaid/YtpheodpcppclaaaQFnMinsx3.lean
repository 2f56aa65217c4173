-- A walk, made by walk.py, a program of this session's.
import Derived.Test.YtpheodpcppclaaaQFnMinsx0
import Derived.Test.YtpheodpcppclaaaQFnMinsx1
import Derived.Test.YtpheodpcppclaaaQFnMinsx2
namespace Go.Proofs.Ytpheodpcppclaaa.QFnMins
open Go.RowKit Go.Proofs.YtpheodpcppclaaaW.PrintWords Go.Proofs.YtpheodpcppclaaaW.PrintLast Go.Proofs.YtpheodpcppclaaaW.PrintMore
attribute [local go_sem] max2_int min2_int max_two min_two max_three min_three max_four min_four   -- for this text's walks alone
set_option linter.unusedVariables false
set_option linter.unusedSimpArgs false

/-! ### impl_Mins_read: function 43 -/
def impl_Mins_read.j0 : Nat → Int → Bool → Int → List Int → Option (List Int × Bool)
 | 0, _, _, _, _ => none
 | k + 1, x4, x21, x141000, x141001 => if x21 = true then (some (([] : List Int), false)) else (if 0 ≤ x4 then (if x4 ≤ (wrap64 (x4 + x141000)) then (if (wrap64 (x4 + x141000)) ≤ (x141001.length : Int) then ((some ((x141001.take ((wrap64 (x4 + x141000)) : Int).toNat).drop (x4 : Int).toNat : List Int)).bind fun y143 => ((impl_areMins.f y143).bind fun t148 => (if t148 = true then ((impl_minsOf.f k y143).bind fun bt149 => ((slices_Equal_int_int.f k bt149.2 x141001).bind fun t153 => (some (y143, t153)))) else (some (y143, false))))) else (none)) else (none)) else (none))
def impl_Mins_read.f (k : Nat) (a0_0 : Int) (l0_1 : List Int) : Option (List Int × Bool) := (impl_leaves.f k (mn a0_0 301)).bind fun t141 => ((impl_within.f a0_0 0 301).bind fun t142 => (if t142 = true then (impl_Mins_read.j0 k t141 ((l0_1.length : Int) != (wrap64 (2 * t141))) a0_0 l0_1) else (impl_Mins_read.j0 k t141 true a0_0 l0_1)))
theorem impl_Mins_read.mono_l : ∀ k, (∀ y0 y1 y2 y3, LeO (impl_Mins_read.j0 k y0 y1 y2 y3) (impl_Mins_read.j0 (k + 1) y0 y1 y2 y3))
 | 0 => fun _ _ _ _ r h => by simp [impl_Mins_read.j0] at h
 | k + 1 => by
  have ih0 := impl_Mins_read.mono_l k
  ·intro y0 y1 y2 y3
   unfold impl_Mins_read.j0
   repeat' first|(with_reducible first|exact ih0 _ _ _ _|exact impl_leaves.mono _ _|exact impl_minsOf.mono _ _|exact slices_Equal_int_int.mono _ _ _|exact LeO.refl _|exact LeO.none _|refine LeO.ite ?_ ?_|refine LeO.bind ?_ (fun _ => ?_))|exact LeO.none _|refine LeO.ite ?_ ?_|refine LeO.bind ?_ (fun _ => ?_)
theorem impl_Mins_read.mono : ∀ a0 a1 k, LeO (impl_Mins_read.f k a0 a1) (impl_Mins_read.f (k + 1) a0 a1) := by
 intro a0 a1 k
 have ih0 := impl_Mins_read.mono_l k
 unfold impl_Mins_read.f
 repeat' first|(with_reducible first|exact ih0 _ _ _ _|exact impl_leaves.mono _ _|exact impl_minsOf.mono _ _|exact slices_Equal_int_int.mono _ _ _|exact LeO.refl _|exact LeO.none _|refine LeO.ite ?_ ?_|refine LeO.bind ?_ (fun _ => ?_))|exact LeO.none _|refine LeO.ite ?_ ?_|refine LeO.bind ?_ (fun _ => ?_)
def impl_Mins_read.T5 : Bool × List (List Nat × List Nat) := (true, [([], []), ([], []), ([1], [1]), ([2, 2], [2]), ([3], [3]), ([4, 3, 3], [3, 4]), ([5, 3], [3, 5]), ([3], [3]), ([7, 3], [3, 7]), ([6, 8, 5, 3], [3, 6, 8]), ([3, 9], [3, 9]), ([0, 9, 0], [0]), ([10, 11, 0, 1, 2, 3, 4, 5, 6, 7, 8, 9, 10, 11], [10])])
def impl_Mins_read.B5 : List Nat := [0, 0, 2, 6, 14, 30, 62, 14, 142, 510, 1022, 1023, 4095]
theorem impl_Mins_read.tab5 : rtab .any (opsOf Try.f43 5) = impl_Mins_read.T5 := by kernel_rfl
theorem impl_Mins_read.bits5 : waitsOk impl_Mins_read.T5.2 impl_Mins_read.B5 = true := by kernel_rfl
abbrev impl_Mins_read.m0 : Array Bool := #[F,F,F,F,F,F,F,F,F,F,F,F,F]
abbrev impl_Mins_read.m1 : Array Bool := #[T,F,F,F,F,F,F,F,F,F,F,F,F]
abbrev impl_Mins_read.m2 : Array Bool := #[T,T,F,F,F,F,F,F,F,F,F,F,F]
abbrev impl_Mins_read.m3 : Array Bool := #[T,T,T,F,F,F,F,F,F,F,F,F,F]
abbrev impl_Mins_read.m4 : Array Bool := #[T,T,T,T,F,F,F,F,F,F,F,F,F]
abbrev impl_Mins_read.m5 : Array Bool := #[T,T,T,T,T,F,F,F,F,F,F,F,F]
abbrev impl_Mins_read.m6 : Array Bool := #[T,T,T,T,T,T,F,F,F,F,F,F,F]
abbrev impl_Mins_read.m7 : Array Bool := #[T,T,T,T,T,T,T,F,F,F,F,F,F]
abbrev impl_Mins_read.m8 : Array Bool := #[T,T,T,T,T,T,T,T,F,F,F,F,F]
abbrev impl_Mins_read.m9 : Array Bool := #[T,T,T,T,T,T,T,T,T,F,F,F,F]
abbrev impl_Mins_read.m10 : Array Bool := #[T,T,T,T,T,T,T,T,T,T,F,F,F]
abbrev impl_Mins_read.m11 : Array Bool := #[T,T,T,T,T,T,T,T,T,T,T,F,F]
abbrev impl_Mins_read.m12 : Array Bool := #[T,T,T,T,T,T,T,T,T,T,T,T,F]
abbrev impl_Mins_read.m13 : Array Bool := #[T,T,T,T,T,T,T,T,T,T,T,T,T]
abbrev impl_Mins_read.m14 : Array Bool := #[T,T,T,T,T,F,F,T,F,F,F,F,F]
abbrev impl_Mins_read.m15 : Array Bool := #[T,T,T,T,T,F,F,T,T,F,F,F,F]
abbrev impl_Mins_read.m16 : Array Bool := #[T,T,T,T,T,T,F,T,T,F,F,F,F]
set_option maxHeartbeats 8000000 in
set_option maxRecDepth 100000 in
theorem impl_Mins_read.calls (k : Nat) (a0_0 : Int) (P0_1_ : Nat → Prop) (A0_1 : Option Addr) (c0_1 : Nat) (l0_1 : List Int) (r1 : List Int) (r2 : Bool) (w : World) (hs0_1 : Kd.V (Kd.int .i64) 3 w w.heap.size (fun k_ => P0_1_ k_) (.slice A0_1 l0_1.length c0_1) l0_1) (h : impl_Mins_read.f k a0_0 l0_1 = some (r1, r2)) :
  Calls Try.prog 43 #[.agg #[.int .i64 a0_0, .slice A0_1 l0_1.length c0_1]] w fun e w' => ∃ v0_ : Value, e = .returned (.tuple #[v0_, .bool r2]) ∧ Kd.V (Kd.int .i64) 3 w' w.heap.size (fun k_ => (P0_1_ k_ ∨ w.heap.size ≤ k_)) v0_ r1 ∧ Below w.heap.size w w' := by
 have hu24:=Try.underlying24
 have hfd24_1:∀ (x0 x1:Value) (w_:World),(Instr.field 24 (.agg #[x0,x1]) 1).run Try.prog w_ = .ok x1 w_:=fun _ _ _=>by kernel_rfl
 have HO0_1:=mk0 (show Kd.V (Kd.int .i64) 3 w w.heap.size (fun k_=>(P0_1_ k_ ∨ w.heap.size ≤ k_)) (.slice A0_1 l0_1.length c0_1) l0_1 from Kd.V_mono hs0_1 (fun k_ hk=>.inl hk))
 have HB:=mk0 (Below.refl w.heap.size w)
 have H:((impl_leaves.f k (mn a0_0 301)).bind fun t141=>((impl_within.f a0_0 0 301).bind fun t142=>(if t142 = true then (impl_Mins_read.j0 k t141 ((l0_1.length:Int) != (wrap64 (2 * t141))) a0_0 l0_1) else (impl_Mins_read.j0 k t141 true a0_0 l0_1)))) = some (r1,r2):=h
 clear h
 obtain⟨ji2,hji2⟩:∃ j_:Int,(mn a0_0 301) = j_:=⟨_,rfl⟩
 replace H:((impl_leaves.f k (ji2)).bind fun t141=>((impl_within.f a0_0 0 301).bind fun t142=>(if t142 = true then (impl_Mins_read.j0 k t141 ((l0_1.length:Int) != (wrap64 (2 * t141))) a0_0 l0_1) else (impl_Mins_read.j0 k t141 true a0_0 l0_1)))) = some (r1,r2):=by first|(rw [hji2] at H;exact H)|(simp only [hji2] at H ⊢;exact H)
 (try (have hji2h:ji2 ≤ 301:=by (rw [← hji2];unfold mn;(repeat' split) <;> omega)))
 (try (have hji2g:ji2 ≤ 64:=by omega))
 have hji2_:(if 301 < a0_0 then 301 else a0_0) = ji2:=hji2
 replace H:=Option.bind_eq_some_iff.mp H
 obtain⟨t141,A30,H⟩:=H
 replace H:((impl_within.f a0_0 0 301).bind fun t142=>(if t142 = true then (impl_Mins_read.j0 k t141 ((l0_1.length:Int) != (wrap64 (2 * t141))) a0_0 l0_1) else (impl_Mins_read.j0 k t141 true a0_0 l0_1))) = some (r1,r2):=H
 have A3:=mk0 A30
 clear A30
 have HC4:=mk0 H
 clear H
 go_enter Try.func43,Try.ntmps43
 go_upto_region 2 with (first|((with_reducible refine gate_dst (N:=1) rfl ?_);(try (refine gate_guard (by rfl) ?_;dsimp only));refine box_event ?hg (N:=1) ?hd (cs:=#[.int .i64 a0_0,.slice A0_1 l0_1.length c0_1]) (t:=24) ?hr ?_;(case hd=>rfl);(case hg=>rfl);(case hr=>first|(go_simp;done)|(go_simp;rfl));intro gb140 hg w5 hbox hb;have n0_:=mk0 (Kd.V_below (Kd.V_elderB (by (with_reducible repeat (first|apply aV|apply nV|apply dV));exact HO0_1.out) gb140 (Nat.le_of_eq hg.symm)) hb);have n1_:=mk0 (below_step (by repeat (first|(with_reducible first|exact HB.out|apply aZ|apply nZ|apply dZ)|exact HB.out)) hb);have n2_:=mk0 (hbox);have n3_:=mk0 ((by rw [hg];exact (below_size (by repeat (first|(with_reducible first|exact HB.out|apply aZ|apply nZ|apply dZ)|exact HB.out))):w.heap.size ≤ gb140));have n4_:=mk0 ((by rw [hg];exact (below_size (by repeat (first|(with_reducible first|exact HB.out|apply aZ|apply nZ|apply dZ)|exact HB.out))):w.heap.size ≤ gb140));clear HO0_1 HB;have HO0_1:=n0_;have HB:=n1_;have BK140:=n2_;have GW140:=n3_;have GE140:=n4_;clear n0_ n1_ n2_ n3_ n4_ hb hbox hg;have hcz6_0:w5.cell? ⟨gb140,0,none⟩ = some (.int .i64 a0_0):=(blk_cell BK140.out 0).trans rfl;have hcz6_1:w5.cell? ⟨gb140,1,none⟩ = some (.slice A0_1 l0_1.length c0_1):=(blk_cell BK140.out 1).trans rfl;have hfz6_0:=blk_frozen BK140.out 0;have hfz6_1:=blk_frozen BK140.out 1)|((with_reducible refine gate_callee (f:=56) rfl ?_);refine goesL_ (some 9) rfl rfl Try.func56 (by kernel_rfl) rfl #[.int .i64 ji2] rfl (by (try simp only [mA,mC,mN]);first|done|(simp only [hji2];rfl)|rfl|(simp only [List.length_drop,List.length_take];rfl)) ?_;(with_reducible refine (impl_leaves.calls k ji2 t141 _ A3.out).mono ?_);rintro e w' ⟨rfl,⟨nd,rfl⟩⟩;refine⟨_,rfl,?_⟩))
 (try simp only [Act.put,sA,sO,sS])
 go_cut [21] (fun v21 wc=>∃ (kq:Nat) (x21_3:Bool),v21 = .bool x21_3 ∧ Aside0 (impl_Mins_read.j0 kq t141 x21_3 a0_0 l0_1 = some (r1,r2)) ∧ Aside0 (kq ≤ k) ∧ Aside0 (Kd.V (Kd.int .i64) 3 wc w.heap.size (fun k_=>(P0_1_ k_ ∨ w.heap.size ≤ k_) ∧ k_ ≠ gb140) (.slice A0_1 l0_1.length c0_1) l0_1) ∧ Aside0 (wc.heap[gb140]? = some (.cells #[.int .i64 a0_0,(.slice A0_1 l0_1.length c0_1)] 24 (0,0))) ∧ Aside0 (Below w.heap.size w wc))
 case first =>
  have H:=HC4.out
  clear HC4
  replace H:=Option.bind_eq_some_iff.mp H
  obtain⟨t142,A70,H⟩:=H
  replace H:(if t142 = true then (impl_Mins_read.j0 k t141 ((l0_1.length:Int) != (wrap64 (2 * t141))) a0_0 l0_1) else (impl_Mins_read.j0 k t141 true a0_0 l0_1)) = some (r1,r2):=H
  have A7:=mk0 A70
  clear A70
  by_cases c8:t142 = true
  rotate_left
  ·replace c8:=Bool.eq_false_iff.mpr c8
   subst c8
   have H1:(impl_Mins_read.j0 k t141 true a0_0 l0_1) = some (r1,r2):=by rw [if_neg (show ¬ (false = true) by decide)] at H;exact H
   clear H
   have H:=H1
   clear H1
   have H':=mk0 H
   clear H
   have hcz10_0:w5.cell? ⟨gb140,0,none⟩ = some (.int .i64 a0_0):=(blk_cell BK140.out 0).trans rfl
   have hcz10_1:w5.cell? ⟨gb140,1,none⟩ = some (.slice A0_1 l0_1.length c0_1):=(blk_cell BK140.out 1).trans rfl
   have hfz10_0:=blk_frozen BK140.out 0
   have hfz10_1:=blk_frozen BK140.out 1
   go_wp2_with (first|((with_reducible refine gate_callee (f:=44) rfl ?_);refine goesL_ (some 12) rfl rfl Try.func44 (by kernel_rfl) rfl #[.int .i64 a0_0,.int .i64 0,.int .i64 301] rfl (by (try simp only [mA,mC,mN]);first|done|rfl|(simp only [List.length_drop,List.length_take];rfl)) ?_;(with_reducible refine (impl_within.calls a0_0 0 301 false _ A7.out).mono ?_);rintro e w' ⟨rfl,⟨nd,rfl⟩⟩;refine⟨_,rfl,?_⟩))
   go_meet
   case rel=>exact⟨_,(true),(by first|rfl|(simp;done)|(simp [*];done)),H',⟨by first|omega|exact Nat.le_refl _⟩,⟨by (with_reducible repeat (first|apply aV|apply nV|apply dV));exact HO0_1.out⟩,⟨by (with_reducible repeat (first|apply nB|apply dB|apply aB));exact BK140.out⟩,⟨by repeat (first|(with_reducible first|exact HB.out|apply aZ|apply nZ|apply dZ|refine sZ ?_ GE140.out)|exact HB.out)⟩⟩
  subst c8
  have H1:(impl_Mins_read.j0 k t141 ((l0_1.length:Int) != (wrap64 (2 * t141))) a0_0 l0_1) = some (r1,r2):=by rw [if_pos rfl] at H;exact H
  clear H
  have H:=H1
  clear H1
  have H':=mk0 H
  clear H
  have hcz9_0:w5.cell? ⟨gb140,0,none⟩ = some (.int .i64 a0_0):=(blk_cell BK140.out 0).trans rfl
  have hcz9_1:w5.cell? ⟨gb140,1,none⟩ = some (.slice A0_1 l0_1.length c0_1):=(blk_cell BK140.out 1).trans rfl
  have hfz9_0:=blk_frozen BK140.out 0
  have hfz9_1:=blk_frozen BK140.out 1
  go_wp2_with (first|((with_reducible refine gate_callee (f:=44) rfl ?_);refine goesL_ (some 12) rfl rfl Try.func44 (by kernel_rfl) rfl #[.int .i64 a0_0,.int .i64 0,.int .i64 301] rfl (by (try simp only [mA,mC,mN]);first|done|rfl|(simp only [List.length_drop,List.length_take];rfl)) ?_;(with_reducible refine (impl_within.calls a0_0 0 301 true _ A7.out).mono ?_);rintro e w' ⟨rfl,⟨nd,rfl⟩⟩;refine⟨_,rfl,?_⟩))
  go_meet
  case rel=>exact⟨_,(((l0_1.length:Int) != (wrap64 (2 * t141)))),(by first|rfl|(simp;done)|(simp [*];done)),H',⟨by first|omega|exact Nat.le_refl _⟩,⟨by (with_reducible repeat (first|apply aV|apply nV|apply dV));exact HO0_1.out⟩,⟨by (with_reducible repeat (first|apply nB|apply dB|apply aB));exact BK140.out⟩,⟨by repeat (first|(with_reducible first|exact HB.out|apply aZ|apply nZ|apply dZ|refine sZ ?_ GE140.out)|exact HB.out)⟩⟩
 case rest =>
  clear HC4
  try clear p2
  try clear c4
  try clear c5
  try clear p6
  try clear c8
  try clear hcz10_0
  try clear hcz10_1
  try clear hcz6_0
  try clear hcz6_1
  try clear hcz9_0
  try clear hcz9_1
  try clear hfz10_0
  try clear hfz10_1
  try clear hfz6_0
  try clear hfz6_1
  try clear hfz9_0
  try clear hfz9_1
  obtain⟨kq,x21_3,rfl,HA,HJ3,HO_141001,BK140,HB⟩:=hcut
  cases kq with
  | zero=>exact absurd HA.out (by simp [impl_Mins_read.j0])
  | succ kj3 =>
   have H:=HA.out
   clear HA
   simp only [impl_Mins_read.j0] at H
   by_cases c11:x21_3 = true
   ·subst c11
    have H1:(some (([]:List Int),false)) = some (r1,r2):=by rw [if_pos rfl] at H;exact H
    clear H
    have H:=H1
    clear H1
    simp only [Option.some.injEq,Prod.mk.injEq] at H
    obtain⟨rfl,rfl⟩:=H
    go_wp2
    go_ret2
    exact⟨_,by first|rfl|(simp [errW_none,errW_some] <;> rfl)|(simp only [← hji2];first|rfl|(simp [errW_none,errW_some] <;> rfl))|(simp [*,errW_none,errW_some] <;> rfl),(by first|exact Kd.V_nil _ _ _ _ _|exact Kd.V_mono (Kd.R_V (by first|exact Kd.R_nil _ _ _ _ _|exact Kd.N_nil _ _ _ _ _|exact Kd.V_nil _ _ _ _ _|exact Kd.Q_nil _ _ _ _ _|exact Kd.S_nil _ _ _ _ _)) (fun k_ hk=>by first|exact⟨(.inr (hk.1)),hk.2⟩|exact (.inr (hk)))),by repeat (first|(with_reducible first|exact HB.out|apply aZ|apply nZ|apply dZ|refine sZ ?_ GE140.out)|exact HB.out)⟩
   replace c11:=Bool.eq_false_iff.mpr c11
   subst c11
   have H1:(if 0 ≤ t141 then (if t141 ≤ (wrap64 (t141 + a0_0)) then (if (wrap64 (t141 + a0_0)) ≤ (l0_1.length:Int) then ((some ((l0_1.take ((wrap64 (t141 + a0_0)):Int).toNat).drop (t141:Int).toNat:List Int)).bind fun y143=>((impl_areMins.f y143).bind fun t148=>(if t148 = true then ((impl_minsOf.f kj3 y143).bind fun bt149=>((slices_Equal_int_int.f kj3 bt149.2 l0_1).bind fun t153=>(some (y143,t153)))) else (some (y143,false))))) else (none)) else (none)) else (none)) = some (r1,r2):=by rw [if_neg (show ¬ (false = true) by decide)] at H;exact H
   clear H
   have H:=H1
   clear H1
   by_cases c12:0 ≤ t141
   rotate_left
   ·rw [if_neg c12] at H
    exact absurd H (by simp)

   rw [if_pos c12] at H
   have c12b0:=eq_true c12
   have c12b1:decide (0 ≤ t141) = true:=decide_eq_true c12
   clear c12
   by_cases c13:t141 ≤ (wrap64 (t141 + a0_0))
   rotate_left
   ·rw [if_neg c13] at H
    exact absurd H (by simp)
   rw [if_pos c13] at H
   have c13b0:=eq_true c13
   have c13b1:decide (t141 ≤ (wrap64 (t141 + a0_0))) = true:=decide_eq_true c13
   by_cases c14:(wrap64 (t141 + a0_0)) ≤ (l0_1.length:Int)
   rotate_left
   ·rw [if_neg c14] at H
    exact absurd H (by simp)
   rw [if_pos c14] at H
   have c14b0:=eq_true c14
   have c14b1:decide ((wrap64 (t141 + a0_0)) ≤ (l0_1.length:Int)) = true:=decide_eq_true c14
   obtain⟨y143,hy143⟩:∃ y_:List Int,y_ = ((l0_1.take ((wrap64 (t141 + a0_0)):Int).toNat).drop (t141:Int).toNat):=⟨_,rfl⟩
   replace H:((impl_areMins.f y143).bind fun t148=>(if t148 = true then ((impl_minsOf.f kj3 y143).bind fun bt149=>((slices_Equal_int_int.f kj3 bt149.2 l0_1).bind fun t153=>(some (y143,t153)))) else (some (y143,false)))) = some (r1,r2):=by first|(rw [hy143];with_reducible exact H)|(have H2_:=(Option.bind_some _ _).symm.trans H;rw [hy143];with_reducible exact H2_)|(have H2_:=(Option.bind_some _ _).symm.trans H;with_reducible exact H2_)|with_reducible exact H|(rw [hy143];exact H)|exact H
   have Ny143:=mk0 hy143
   clear hy143
   replace H:=Option.bind_eq_some_iff.mp H
   obtain⟨t148,A150,H⟩:=H
   replace H:(if t148 = true then ((impl_minsOf.f kj3 y143).bind fun bt149=>((slices_Equal_int_int.f kj3 bt149.2 l0_1).bind fun t153=>(some (y143,t153)))) else (some (y143,false))) = some (r1,r2):=H
   have A15:=mk0 A150
   clear A150
   by_cases c16:t148 = true
   rotate_left
   ·replace c16:=Bool.eq_false_iff.mpr c16
    subst c16
    have H1:(some (y143,false)) = some (r1,r2):=by rw [if_neg (show ¬ (false = true) by decide)] at H;exact H
    clear H
    have H:=H1
    clear H1
    simp only [Option.some.injEq,Prod.mk.injEq] at H
    obtain⟨rfl,rfl⟩:=H
    have hcz25_0:wc.cell? ⟨gb140,0,none⟩ = some (.int .i64 a0_0):=(blk_cell BK140.out 0).trans rfl
    have hcz25_1:wc.cell? ⟨gb140,1,none⟩ = some (.slice A0_1 l0_1.length c0_1):=(blk_cell BK140.out 1).trans rfl
    have hfz25_0:=blk_frozen BK140.out 0
    have hfz25_1:=blk_frozen BK140.out 1
    have q26:((wrap64 (t141 + a0_0)):Int) ≤ ((l0_1.length:Int):Int):=of_decide_eq_true (by first|(with_reducible assumption)|assumption)
    obtain⟨i026,hi026,_,hsz26,_⟩:=info_parts info3
    have hroom26:l0_1.length ≤ c0_1:=(Kd.V_reads' HO_141001.out).2.1
    have hC26:Kd.F (Kd.int .i64) _ _ A0_1 l0_1.length l0_1:=(Kd.V_at (base:=w.heap.size) HO_141001.out).2.2
    have ql26:(t141:Int) ≤ ((wrap64 (t141 + a0_0)):Int):=of_decide_eq_true (by first|(with_reducible assumption)|assumption)
    have q026:(0:Int) ≤ (t141:Int):=of_decide_eq_true (by first|(with_reducible assumption)|assumption)
    have hcut26:=cut_mid (P:=Try.prog) 22 3 .i64 .i64 Try.underlying22 hi026 1 hsz26 A0_1 l0_1.length c0_1 t141 (wrap64 (t141 + a0_0)) q026 ql26 q26 hroom26
    have hr26:=Kd.F_mid (lo:=(t141:Int).toNat) (hi:=((wrap64 (t141 + a0_0)):Int).toNat) (c:=c0_1) hC26 (by omega) (by omega) hroom26
    obtain⟨A26,hA26⟩:∃ A1,A1 = (if c0_1 = (t141:Int).toNat then A0_1 else (A0_1:Option Addr).map (·.add ((t141:Int).toNat * 1))):=⟨_,rfl⟩
    obtain⟨c26,hc26⟩:∃ c1,c1 = c0_1 - (t141:Int).toNat:=⟨_,rfl⟩
    have hy26:y143.length = ((wrap64 (t141 + a0_0)):Int).toNat - (t141:Int).toNat:=(by rw [Ny143.out,List.length_drop,List.length_take] <;> omega)
    rw [show ((l0_1).take ((wrap64 (t141 + a0_0)):Int).toNat).drop (t141:Int).toNat = y143 from Ny143.out.symm] at hr26
    replace hr26:Kd.F (Kd.int .i64) _ _ A26 y143.length y143:=(by rw [hA26];exact hr26)
    rw [← hy26, ← hA26, ← hc26] at hcut26
    have HO147:=mk0 (show Kd.V (Kd.int .i64) 3 _ w.heap.size _ (.slice A26 y143.length c26) y143 from Kd.V_mk (by rw [hy26,hc26];exact Nat.sub_le_sub_right (Nat.le_trans (by omega) hroom26) _) hr26)
    have HC147:=mk0 (show y143.length ≤ c26 from by rw [hy26,hc26];exact Nat.sub_le_sub_right (Nat.le_trans (by omega) hroom26) _)
    clear hr26 hC26 hroom26 hi026 hsz26 hc26
    have KY26:=mk0 hy26
    have KA26:=mk0 hA26
    clear hy26 hA26
    replace q26:=eq_true q26
    try go_wp2
    have n0_:=mk0 (dV HO_141001.out)
    have n1_:=mk0 (dV HO147.out)
    have n2_:=mk0 (dB BK140.out)
    have n3_:=mk0 (dZ HB.out)
    clear HO_141001
    clear HO147
    clear BK140
    clear HB
    have HO_141001:=n0_
    have HO147:=n1_
    have BK140:=n2_
    have HB:=n3_
    clear n0_ n1_ n2_ n3_
    refine start_ (n:=13) (S:=fun w'=>True) (ds:=[]) impl_Mins_read.m0 (by kernel_rfl) rfl rfl trivial (fun hHeld=>?_);refine with_tabW impl_Mins_read.tab5 impl_Mins_read.bits5 (fun HT_ HW_=>?_)
    generalize wc.drew = w27 at HO_141001 HO147 BK140 HB hHeld ⊢
    refine pure_ (i:=0) (N:=some 30) (v:=?_) (a':=?_) impl_Mins_read.m1 rfl rfl (any_of HT_.out (by kernel_rfl)) (fun _ _ _ h=>h) (Or.inl ⟨by rfl,?_⟩) ?_ ?_
    rotate_left
    ·intro w'
     go_simp
     with_reducible rfl
    rotate_left
    ·simp only [Act.put,sA,sO,sS,i64_w,i32_w]
     rfl
    refine pure_ (i:=1) (N:=some 31) (v:=?_) (a':=?_) impl_Mins_read.m2 rfl rfl (any_of HT_.out (by kernel_rfl)) (fun _ _ _ h=>h) (Or.inl ⟨by rfl,?_⟩) ?_ ?_
    rotate_left
    ·intro w'
     go_simp
     with_reducible rfl
    rotate_left
    ·simp only [Act.put,sA,sO,sS,i64_w,i32_w]
     rfl
    refine one_ (i:=2) (N:=some 32) impl_Mins_read.m3 rfl rfl (one_of HT_.out (by kernel_rfl)) (by decide) (fun K hK=>?_)
    refine goes_ Try.func38 (by kernel_rfl) rfl #[.slice A26 y143.length c26] (by rfl) rfl rfl (by (try simp only [mA,mC,mN]);first|done|rfl|(simp only [List.length_drop,List.length_take];rfl)) ?_
    with_reducible refine (impl_areMins.calls _ _ y143 false _ ?side1 ?side2 A15.out).mono ?_
    (case side1=>repeat (first|exact (Kd.V_reads' HO147.out).2.2|(with_reducible first|apply aC|apply nC|apply dC)))
    (case side2=>exact (Kd.V_reads' HO147.out).2.1)
    rintro e w28 ⟨rfl,hb⟩
    refine⟨_,rfl,?_⟩
    have n0_:=mk0 (Kd.V_below (by (with_reducible repeat (first|apply aV|apply nV|apply dV));exact HO_141001.out) hb)
    have n1_:=mk0 (Kd.V_below (by (with_reducible repeat (first|apply aV|apply nV|apply dV));exact HO147.out) hb)
    have n2_:=mk0 (blk_below (g:=gb140) (o:=.cells #[.int .i64 a0_0,.slice A0_1 l0_1.length c0_1] 24 (0,0)) (by (with_reducible repeat (first|apply nB|apply dB|apply aB));exact BK140.out) hb)
    have n3_:=mk0 (below_step (by repeat (first|(with_reducible first|exact HB.out|apply aZ|apply nZ|apply dZ|refine sZ ?_ GE140.out)|exact HB.out)) hb)
    clear HO_141001
    clear HO147
    clear BK140
    clear HB
    have HO_141001:=n0_
    have HO147:=n1_
    have BK140:=n2_
    have HB:=n3_
    clear n0_ n1_ n2_ n3_
    (try clear hb)
    (try clear hb2)
    (try clear hk)
    (try clear hi)
    refine hK.out _ _ trivial (fun hHeld=>?_)
    clear hK K
    refine norm_ (a':=?_) ?_ ?_
    rotate_left
    ·show Act.put _ (some 32) _ = _
     simp only [Act.put,sA,sO,sS,i64_w,i32_w]
     rfl
    refine pure_ (i:=3) (N:=some 33) (v:=?_) (a':=?_) impl_Mins_read.m4 rfl rfl (any_of HT_.out (by kernel_rfl)) (fun _ _ _ h=>h) (Or.inl ⟨by rfl,?_⟩) ?_ ?_
    rotate_left
    ·intro w'
     go_simp
     with_reducible rfl
    rotate_left
    ·simp only [Act.put,sA,sO,sS,i64_w,i32_w]
     rfl
    refine pure_ (i:=4) (N:=some 34) (v:=undef) (a':=?_) impl_Mins_read.m5 rfl rfl (any_of HT_.out (by kernel_rfl)) (fun _ _ _ h=>h) (Or.inr ⟨by rfl,rfl⟩) ?_ ?_
    rotate_left
    ·simp only [Act.put,sA,sO,sS,i64_w,i32_w]
     rfl
    refine pure_ (i:=5) (N:=some 35) (v:=undef) (a':=?_) impl_Mins_read.m6 rfl rfl (any_of HT_.out (by kernel_rfl)) (fun _ _ _ h=>h) (Or.inr ⟨by rfl,rfl⟩) ?_ ?_
    rotate_left
    ·simp only [Act.put,sA,sO,sS,i64_w,i32_w]
     rfl
    refine pure_ (i:=6) (N:=some 36) (v:=undef) (a':=?_) impl_Mins_read.m7 rfl rfl (any_of HT_.out (by kernel_rfl)) (fun _ _ _ h=>h) (Or.inr ⟨by rfl,rfl⟩) ?_ ?_
    rotate_left
    ·simp only [Act.put,sA,sO,sS,i64_w,i32_w]
     rfl
    refine pure_ (i:=7) (N:=some 37) (v:=undef) (a':=?_) impl_Mins_read.m8 rfl rfl (any_of HT_.out (by kernel_rfl)) (fun _ _ _ h=>h) (Or.inr ⟨by rfl,rfl⟩) ?_ ?_
    rotate_left
    ·simp only [Act.put,sA,sO,sS,i64_w,i32_w]
     rfl
    refine pure_ (i:=8) (N:=some 38) (v:=undef) (a':=?_) impl_Mins_read.m9 rfl rfl (any_of HT_.out (by kernel_rfl)) (fun _ _ _ h=>h) (Or.inr ⟨by rfl,rfl⟩) ?_ ?_
    rotate_left
    ·simp only [Act.put,sA,sO,sS,i64_w,i32_w]
     rfl
    refine pure_ (i:=9) (N:=some 39) (v:=undef) (a':=?_) impl_Mins_read.m10 rfl rfl (any_of HT_.out (by kernel_rfl)) (fun _ _ _ h=>h) (Or.inr ⟨by rfl,rfl⟩) ?_ ?_
    rotate_left
    ·simp only [Act.put,sA,sO,sS,i64_w,i32_w]
     rfl
    refine pure_ (i:=10) (N:=some 40) (v:=?_) (a':=?_) impl_Mins_read.m11 rfl rfl (any_of HT_.out (by kernel_rfl)) (fun _ _ _ h=>h) (Or.inl ⟨by rfl,?_⟩) ?_ ?_
    rotate_left
    ·intro w'
     go_simp
     with_reducible rfl
    rotate_left
    ·simp only [Act.put,sA,sO,sS,i64_w,i32_w]
     rfl
    refine pure_ (i:=11) (N:=some 2) (v:=?_) (a':=?_) impl_Mins_read.m12 rfl rfl (any_of HT_.out (by kernel_rfl)) (fun _ _ _ h=>h) (Or.inl ⟨by rfl,?_⟩) ?_ ?_
    rotate_left
    ·intro w'
     go_simp
     with_reducible rfl
    rotate_left
    ·simp only [Act.put,sA,sO,sS,i64_w,i32_w]
     rfl
    refine pure_ (i:=12) (N:=some 3) (v:=?_) (a':=?_) impl_Mins_read.m13 rfl rfl (any_of HT_.out (by kernel_rfl)) (fun _ _ _ h=>h) (Or.inl ⟨by rfl,?_⟩) ?_ ?_
    rotate_left
    ·intro w'
     go_simp
     with_reducible rfl
    rotate_left
    ·simp only [Act.put,sA,sO,sS,i64_w,i32_w]
     rfl
    refine done_ (done_of HT_.out (by kernel_rfl)) ?_
    try go_wp2
    go_ret2
    exact⟨_,by first|rfl|(simp [errW_none,errW_some] <;> rfl)|(simp only [← hji2];first|rfl|(simp [errW_none,errW_some] <;> rfl))|(simp [*,errW_none,errW_some] <;> rfl),by (with_reducible repeat (first|apply aV|apply nV|apply dV));exact Kd.V_mono HO147.out (by first|exact fun _ hk=>hk.1|(intro k_ hk;simp only [hk,ne_eq,and_self,not_false_eq_true])),by repeat (first|(with_reducible first|exact HB.out|apply aZ|apply nZ|apply dZ|refine sZ ?_ GE140.out)|exact HB.out)⟩
   subst c16
   have H1:((impl_minsOf.f kj3 y143).bind fun bt149=>((slices_Equal_int_int.f kj3 bt149.2 l0_1).bind fun t153=>(some (y143,t153)))) = some (r1,r2):=by rw [if_pos rfl] at H;exact H
   clear H
   have H:=H1
   clear H1
   replace H:=Option.bind_eq_some_iff.mp H
   obtain⟨⟨t149,t150⟩,A170,H⟩:=H
   replace H:((slices_Equal_int_int.f kj3 t150 l0_1).bind fun t153=>(some (y143,t153))) = some (r1,r2):=H
   have A17:=mk0 A170
   clear A170
   replace H:=Option.bind_eq_some_iff.mp H
   obtain⟨t153,A180,H⟩:=H
   replace H:(some (y143,t153)) = some (r1,r2):=H
   have A18:=mk0 A180
   clear A180
   simp only [Option.some.injEq,Prod.mk.injEq] at H
   obtain⟨rfl,rfl⟩:=H
   have hcz19_0:wc.cell? ⟨gb140,0,none⟩ = some (.int .i64 a0_0):=(blk_cell BK140.out 0).trans rfl
   have hcz19_1:wc.cell? ⟨gb140,1,none⟩ = some (.slice A0_1 l0_1.length c0_1):=(blk_cell BK140.out 1).trans rfl
   have hfz19_0:=blk_frozen BK140.out 0
   have hfz19_1:=blk_frozen BK140.out 1
   have q20:((wrap64 (t141 + a0_0)):Int) ≤ ((l0_1.length:Int):Int):=of_decide_eq_true (by first|(with_reducible assumption)|assumption)
   obtain⟨i020,hi020,_,hsz20,_⟩:=info_parts info3
   have hroom20:l0_1.length ≤ c0_1:=(Kd.V_reads' HO_141001.out).2.1
   have hC20:Kd.F (Kd.int .i64) _ _ A0_1 l0_1.length l0_1:=(Kd.V_at (base:=w.heap.size) HO_141001.out).2.2
   have ql20:(t141:Int) ≤ ((wrap64 (t141 + a0_0)):Int):=of_decide_eq_true (by first|(with_reducible assumption)|assumption)
   have q020:(0:Int) ≤ (t141:Int):=of_decide_eq_true (by first|(with_reducible assumption)|assumption)
   have hcut20:=cut_mid (P:=Try.prog) 22 3 .i64 .i64 Try.underlying22 hi020 1 hsz20 A0_1 l0_1.length c0_1 t141 (wrap64 (t141 + a0_0)) q020 ql20 q20 hroom20
   have hr20:=Kd.F_mid (lo:=(t141:Int).toNat) (hi:=((wrap64 (t141 + a0_0)):Int).toNat) (c:=c0_1) hC20 (by omega) (by omega) hroom20
   obtain⟨A20,hA20⟩:∃ A1,A1 = (if c0_1 = (t141:Int).toNat then A0_1 else (A0_1:Option Addr).map (·.add ((t141:Int).toNat * 1))):=⟨_,rfl⟩
   obtain⟨c20,hc20⟩:∃ c1,c1 = c0_1 - (t141:Int).toNat:=⟨_,rfl⟩
   have hy20:y143.length = ((wrap64 (t141 + a0_0)):Int).toNat - (t141:Int).toNat:=(by rw [Ny143.out,List.length_drop,List.length_take] <;> omega)
   rw [show ((l0_1).take ((wrap64 (t141 + a0_0)):Int).toNat).drop (t141:Int).toNat = y143 from Ny143.out.symm] at hr20
   replace hr20:Kd.F (Kd.int .i64) _ _ A20 y143.length y143:=(by rw [hA20];exact hr20)
   rw [← hy20, ← hA20, ← hc20] at hcut20
   have HO147:=mk0 (show Kd.V (Kd.int .i64) 3 _ w.heap.size _ (.slice A20 y143.length c20) y143 from Kd.V_mk (by rw [hy20,hc20];exact Nat.sub_le_sub_right (Nat.le_trans (by omega) hroom20) _) hr20)
   have HC147:=mk0 (show y143.length ≤ c20 from by rw [hy20,hc20];exact Nat.sub_le_sub_right (Nat.le_trans (by omega) hroom20) _)
   clear hr20 hC20 hroom20 hi020 hsz20 hc20
   have KY20:=mk0 hy20
   have KA20:=mk0 hA20
   clear hy20 hA20
   replace q20:=eq_true q20
   try go_wp2
   have n0_:=mk0 (dV HO_141001.out)
   have n1_:=mk0 (dV HO147.out)
   have n2_:=mk0 (dB BK140.out)
   have n3_:=mk0 (dZ HB.out)
   clear HO_141001
   clear HO147
   clear BK140
   clear HB
   have HO_141001:=n0_
   have HO147:=n1_
   have BK140:=n2_
   have HB:=n3_
   clear n0_ n1_ n2_ n3_
   refine start_ (n:=13) (S:=fun w'=>w'.cell? ⟨gb140,0,none⟩ = some (.int .i64 a0_0) ∧ w'.cell? ⟨gb140,1,none⟩ = some (.slice A0_1 l0_1.length c0_1)) (ds:=[]) impl_Mins_read.m0 (by kernel_rfl) rfl rfl ⟨(blk_cell BK140.out 0).trans rfl,(blk_cell BK140.out 1).trans rfl⟩ (fun hHeld=>?_);refine with_tabW impl_Mins_read.tab5 impl_Mins_read.bits5 (fun HT_ HW_=>?_)
   generalize wc.drew = w21 at HO_141001 HO147 BK140 HB hHeld ⊢
   refine pure_ (i:=0) (N:=some 30) (v:=?_) (a':=?_) impl_Mins_read.m1 rfl rfl (any_of HT_.out (by kernel_rfl)) (fun _ _ _ h=>h) (Or.inl ⟨by rfl,?_⟩) ?_ ?_
   rotate_left
   ·intro w'
    go_simp
    with_reducible rfl
   rotate_left
   ·simp only [Act.put,sA,sO,sS,i64_w,i32_w]
    rfl
   refine pure_ (i:=1) (N:=some 31) (v:=?_) (a':=?_) impl_Mins_read.m2 rfl rfl (any_of HT_.out (by kernel_rfl)) (fun _ _ _ h=>h) (Or.inl ⟨by rfl,?_⟩) ?_ ?_
   rotate_left
   ·intro w'
    go_simp
    with_reducible rfl
   rotate_left
   ·simp only [Act.put,sA,sO,sS,i64_w,i32_w]
    rfl
   refine one_ (i:=2) (N:=some 32) impl_Mins_read.m3 rfl rfl (one_of HT_.out (by kernel_rfl)) (by decide) (fun K hK=>?_)
   refine goes_ Try.func38 (by kernel_rfl) rfl #[.slice A20 y143.length c20] (by rfl) rfl rfl (by (try simp only [mA,mC,mN]);first|done|rfl|(simp only [List.length_drop,List.length_take];rfl)) ?_
   with_reducible refine (impl_areMins.calls _ _ y143 true _ ?side1 ?side2 A15.out).mono ?_
   (case side1=>repeat (first|exact (Kd.V_reads' HO147.out).2.2|(with_reducible first|apply aC|apply nC|apply dC)))
   (case side2=>exact (Kd.V_reads' HO147.out).2.1)
   rintro e w22 ⟨rfl,hb⟩
   refine⟨_,rfl,?_⟩
   have n0_:=mk0 (Kd.V_below (by (with_reducible repeat (first|apply aV|apply nV|apply dV));exact HO_141001.out) hb)
   have n1_:=mk0 (Kd.V_below (by (with_reducible repeat (first|apply aV|apply nV|apply dV));exact HO147.out) hb)
   have n2_:=mk0 (blk_below (g:=gb140) (o:=.cells #[.int .i64 a0_0,.slice A0_1 l0_1.length c0_1] 24 (0,0)) (by (with_reducible repeat (first|apply nB|apply dB|apply aB));exact BK140.out) hb)
   have n3_:=mk0 (below_step (by repeat (first|(with_reducible first|exact HB.out|apply aZ|apply nZ|apply dZ|refine sZ ?_ GE140.out)|exact HB.out)) hb)
   clear HO_141001
   clear HO147
   clear BK140
   clear HB
   have HO_141001:=n0_
   have HO147:=n1_
   have BK140:=n2_
   have HB:=n3_
   clear n0_ n1_ n2_ n3_
   (try clear hb)
   (try clear hb2)
   (try clear hk)
   (try clear hi)
   refine hK.out _ _ ⟨(blk_cell BK140.out 0).trans rfl,(blk_cell BK140.out 1).trans rfl⟩ (fun hHeld=>?_)
   clear hK K
   refine norm_ (a':=?_) ?_ ?_
   rotate_left
   ·show Act.put _ (some 32) _ = _
    simp only [Act.put,sA,sO,sS,i64_w,i32_w]
    rfl
   refine pure_ (i:=3) (N:=some 33) (v:=?_) (a':=?_) impl_Mins_read.m4 rfl rfl (any_of HT_.out (by kernel_rfl)) (fun _ _ _ h=>h) (Or.inl ⟨by rfl,?_⟩) ?_ ?_
   rotate_left
   ·intro w'
    go_simp
    with_reducible rfl
   rotate_left
   ·simp only [Act.put,sA,sO,sS,i64_w,i32_w]
    rfl
   refine pure_ (i:=4) (N:=some 34) (v:=?_) (a':=?_) impl_Mins_read.m5 rfl rfl (any_of HT_.out (by kernel_rfl)) (fun _ _ _ h=>h) (Or.inl ⟨by rfl,?_⟩) ?_ ?_
   rotate_left
   ·intro w'
    go_simp
    with_reducible rfl
   rotate_left
   ·simp only [Act.put,sA,sO,sS,i64_w,i32_w]
    rfl
   refine pure_ (i:=7) (N:=some 37) (v:=?_) (a':=?_) impl_Mins_read.m14 rfl rfl (any_of HT_.out (by kernel_rfl)) (fun _ _ _ h=>h) (Or.inl ⟨by rfl,?_⟩) ?_ ?_
   rotate_left
   ·intro w'
    go_simp
    with_reducible rfl
   rotate_left
   ·simp only [Act.put,sA,sO,sS,i64_w,i32_w]
    rfl
   refine take_ (i:=8) (N:=some 38) (v:=?_) (a':=?_) impl_Mins_read.m15 rfl rfl (take_ofW HT_.out HW_.out (by kernel_rfl)) (fun _ _ _ h=>h) (Or.inl ⟨by rfl,?_⟩) hHeld ?_ ?_
   rotate_left
   ·rintro w' ⟨s0,s1⟩
    go_simp
    with_reducible rfl
   rotate_left
   ·simp only [Act.put,sA,sO,sS,i64_w,i32_w]
    rfl
   refine one_ (i:=5) (N:=some 35) impl_Mins_read.m16 rfl rfl (one_of HT_.out (by kernel_rfl)) (by decide) (fun K hK=>?_)
   refine goes_ Try.func39 (by kernel_rfl) rfl #[.slice A20 y143.length c20] (by rfl) rfl rfl (by (try simp only [mA,mC,mN]);first|done|rfl|(simp only [List.length_drop,List.length_take];rfl)) ?_
   with_reducible refine (impl_minsOf.calls kj3 _ _ y143 t149 t150 _ ?side1 ?side2 A17.out).mono ?_
   (case side1=>repeat (first|exact (Kd.V_reads' HO147.out).2.2|(with_reducible first|apply aC|apply nC|apply dC)))
   (case side2=>exact (Kd.V_reads' HO147.out).2.1)
   rintro e w23 ⟨v151,rfl,ho0,hb⟩
   refine⟨_,rfl,?_⟩
   have n0_:=mk0 (Kd.V_elder' (by (with_reducible repeat (first|apply aV|apply nV|apply dV));exact HO_141001.out) (Kd.R_base ho0) hb)
   have n1_:=mk0 (Kd.V_elder' (by (with_reducible repeat (first|apply aV|apply nV|apply dV));exact HO147.out) (Kd.R_base ho0) hb)
   have n2_:=mk0 (Kd.R_lower (Kd.R_newM (M:=fun k_=>(w.heap.size ≤ k_)) ho0 (below_size (by repeat (first|(with_reducible first|exact HB.out|apply aZ|apply nZ|apply dZ|refine sZ ?_ GE140.out)|exact HB.out))) (fun k_ h_=>h_)) (below_size (by repeat (first|(with_reducible first|exact HB.out|apply aZ|apply nZ|apply dZ|refine sZ ?_ GE140.out)|exact HB.out))))
   have n3_:=mk0 (blk_below (g:=gb140) (o:=.cells #[.int .i64 a0_0,.slice A0_1 l0_1.length c0_1] 24 (0,0)) (by (with_reducible repeat (first|apply nB|apply dB|apply aB));exact BK140.out) hb)
   have n4_:=mk0 (below_step (by repeat (first|(with_reducible first|exact HB.out|apply aZ|apply nZ|apply dZ|refine sZ ?_ GE140.out)|exact HB.out)) hb)
   clear HO_141001
   clear HO147
   clear BK140
   clear HB
   have HO_141001:=n0_
   have HO147:=n1_
   have HO152:=n2_
   have BK140:=n3_
   have HB:=n4_
   clear n0_ n1_ n2_ n3_ n4_
   (try clear hb)
   (try clear hb2)
   (try clear hk)
   (try clear hi)
   (try clear ho0)
   obtain⟨Ao24,co24,eo24⟩:=Kd.R_slice HO152.out
   (first|subst eo24|(injection eo24 with f1_ f2_ f3_;have f4_:=f1_.symm;have f5_:=f3_.symm;clear f1_ f2_ f3_;subst f4_;subst f5_))
   refine hK.out _ _ ⟨(blk_cell BK140.out 0).trans rfl,(blk_cell BK140.out 1).trans rfl⟩ (fun hHeld=>?_)
   clear hK K
   refine norm_ (a':=?_) ?_ ?_
   rotate_left
   ·show Act.put _ (some 35) _ = _
    simp only [Act.put,sA,sO,sS,i64_w,i32_w]
    rfl
   refine pure_ (i:=6) (N:=some 36) (v:=?_) (a':=?_) impl_Mins_read.m9 rfl rfl (any_of HT_.out (by kernel_rfl)) (fun _ _ _ h=>h) (Or.inl ⟨by rfl,?_⟩) ?_ ?_
   rotate_left
   ·intro w'
    go_simp
    with_reducible rfl
   rotate_left
   ·simp only [Act.put,sA,sO,sS,i64_w,i32_w]
    rfl
   refine one_ (i:=9) (N:=some 39) impl_Mins_read.m10 rfl rfl (one_of HT_.out (by kernel_rfl)) (by decide) (fun K hK=>?_)
   refine goes_ Try.func59 (by kernel_rfl) rfl #[.slice Ao24 t150.length co24,.slice A0_1 l0_1.length c0_1] (by rfl) rfl rfl (by (try simp only [mA,mC,mN]);first|done|rfl|(simp only [List.length_drop,List.length_take];rfl)) ?_
   with_reducible refine (slices_Equal_int_int.calls kj3 _ _ t150 _ _ l0_1 t153 _ ?side1 ?side2 ?side3 ?side4 A18.out).mono ?_
   (case side1=>repeat (first|exact (Kd.R_reads' HO152.out).2.2|(with_reducible first|apply aC|apply nC|apply dC)))
   (case side2=>exact (Kd.R_reads' HO152.out).2.1)
   (case side3=>repeat (first|exact (Kd.V_reads' HO_141001.out).2.2|(with_reducible first|apply aC|apply nC|apply dC)))
   (case side4=>exact (Kd.V_reads' HO_141001.out).2.1)
   rintro e w' ⟨rfl,⟨nd,rfl⟩⟩
   refine⟨_,rfl,?_⟩
   refine hK.out _ _ ⟨(blk_cell BK140.out 0).trans rfl,(blk_cell BK140.out 1).trans rfl⟩ (fun hHeld=>?_)
   clear hK K
   refine norm_ (a':=?_) ?_ ?_
   rotate_left
   ·show Act.put _ (some 39) _ = _
    simp only [Act.put,sA,sO,sS,i64_w,i32_w]
    rfl
   refine pure_ (i:=10) (N:=some 40) (v:=?_) (a':=?_) impl_Mins_read.m11 rfl rfl (any_of HT_.out (by kernel_rfl)) (fun _ _ _ h=>h) (Or.inl ⟨by rfl,?_⟩) ?_ ?_
   rotate_left
   ·intro w'
    go_simp
    with_reducible rfl
   rotate_left
   ·simp only [Act.put,sA,sO,sS,i64_w,i32_w]
    rfl
   refine pure_ (i:=11) (N:=some 2) (v:=?_) (a':=?_) impl_Mins_read.m12 rfl rfl (any_of HT_.out (by kernel_rfl)) (fun _ _ _ h=>h) (Or.inl ⟨by rfl,?_⟩) ?_ ?_
   rotate_left
   ·intro w'
    go_simp
    with_reducible rfl
   rotate_left
   ·simp only [Act.put,sA,sO,sS,i64_w,i32_w]
    rfl
   refine pure_ (i:=12) (N:=some 3) (v:=?_) (a':=?_) impl_Mins_read.m13 rfl rfl (any_of HT_.out (by kernel_rfl)) (fun _ _ _ h=>h) (Or.inl ⟨by rfl,?_⟩) ?_ ?_
   rotate_left
   ·intro w'
    go_simp
    with_reducible rfl
   rotate_left
   ·simp only [Act.put,sA,sO,sS,i64_w,i32_w]
    rfl
   refine done_ (done_of HT_.out (by kernel_rfl)) ?_
   try go_wp2
   go_ret2
   exact⟨_,by first|rfl|(simp [errW_none,errW_some] <;> rfl)|(simp only [← hji2];first|rfl|(simp [errW_none,errW_some] <;> rfl))|(simp [*,errW_none,errW_some] <;> rfl),by (with_reducible repeat (first|apply aV|apply nV|apply dV));exact Kd.V_mono HO147.out (by first|exact fun _ hk=>hk.1.1|(intro k_ hk;simp only [hk,ne_eq,and_self,not_false_eq_true])),by repeat (first|(with_reducible first|exact HB.out|apply aZ|apply nZ|apply dZ|refine sZ ?_ GE140.out)|exact HB.out)⟩
/-! ### impl_MinsPrev: function 22 -/
mutual
def impl_MinsPrev.j0 : Nat → Int → Int → List Int → Bool → Option (Int)
 | 0, _, _, _, _ => none
 | k + 1, x1, x2, x7, x22 => if x22 = true then (some (-1)) else (impl_MinsPrev.l0 k (wrap64 (x1 - 1)) x2 x7)
def impl_MinsPrev.l0 : Nat → Int → Int → List Int → Option (Int)
 | 0, _, _, _ => none
 | k + 1, x1, x2, x7 => if x1 ≥ 0 then (if 0 ≤ x1 then (if x1 < (x7.length : Int) then (if (rd x7 x1) ≥ x2 then (impl_MinsPrev.l0 k (wrap64 (x1 - 1)) x2 x7) else (some x1)) else (none)) else (none)) else (some x1)
end
def impl_MinsPrev.f (k : Nat) (a0_0 : Int) (l0_1 : List Int) (a1 : Int) (a2 : Int) : Option (Int) := (impl_Mins_read.f k a0_0 l0_1).bind fun bt155 => (if bt155.2 = true then ((impl_within.f a1 0 (bt155.1.length : Int)).bind fun t159 => (impl_MinsPrev.j0 k a1 a2 bt155.1 (!t159))) else (impl_MinsPrev.j0 k a1 a2 bt155.1 true))
theorem impl_MinsPrev.mono_l : ∀ k, (∀ y0 y1 y2 y3, LeO (impl_MinsPrev.j0 k y0 y1 y2 y3) (impl_MinsPrev.j0 (k + 1) y0 y1 y2 y3)) ∧ (∀ y0 y1 y2, LeO (impl_MinsPrev.l0 k y0 y1 y2) (impl_MinsPrev.l0 (k + 1) y0 y1 y2))
 | 0 => ⟨fun _ _ _ _ r h => by simp [impl_MinsPrev.j0] at h, fun _ _ _ r h => by simp [impl_MinsPrev.l0] at h⟩
 | k + 1 => by
  obtain ⟨ih0, ih1⟩ := impl_MinsPrev.mono_l k
  refine ⟨?_, ?_⟩
  ·intro y0 y1 y2 y3
   unfold impl_MinsPrev.j0
   repeat' first|(with_reducible first|exact ih0 _ _ _ _|exact ih1 _ _ _|exact impl_Mins_read.mono _ _ _|exact LeO.refl _|exact LeO.none _|refine LeO.ite ?_ ?_|refine LeO.bind ?_ (fun _ => ?_))|exact LeO.none _|refine LeO.ite ?_ ?_|refine LeO.bind ?_ (fun _ => ?_)
  ·intro y0 y1 y2
   unfold impl_MinsPrev.l0
   repeat' first|(with_reducible first|exact ih0 _ _ _ _|exact ih1 _ _ _|exact impl_Mins_read.mono _ _ _|exact LeO.refl _|exact LeO.none _|refine LeO.ite ?_ ?_|refine LeO.bind ?_ (fun _ => ?_))|exact LeO.none _|refine LeO.ite ?_ ?_|refine LeO.bind ?_ (fun _ => ?_)
theorem impl_MinsPrev.mono : ∀ a0 a1 a2 a3 k, LeO (impl_MinsPrev.f k a0 a1 a2 a3) (impl_MinsPrev.f (k + 1) a0 a1 a2 a3) := by
 intro a0 a1 a2 a3 k
 obtain ⟨ih0, ih1⟩ := impl_MinsPrev.mono_l k
 unfold impl_MinsPrev.f
 repeat' first|(with_reducible first|exact ih0 _ _ _ _|exact ih1 _ _ _|exact impl_Mins_read.mono _ _ _|exact LeO.refl _|exact LeO.none _|refine LeO.ite ?_ ?_|refine LeO.bind ?_ (fun _ => ?_))|exact LeO.none _|refine LeO.ite ?_ ?_|refine LeO.bind ?_ (fun _ => ?_)
set_option maxHeartbeats 8000000 in
set_option maxRecDepth 100000 in
theorem impl_MinsPrev.calls (k : Nat) (a0_0 : Int) (A0_1 : Option Addr) (c0_1 : Nat) (l0_1 : List Int) (a1 : Int) (a2 : Int) (r : Int) (w : World) (hr0_1 : Kd.C (Kd.int .i64) w A0_1 l0_1.length l0_1) (hc0_1 : l0_1.length ≤ c0_1) (h : impl_MinsPrev.f k a0_0 l0_1 a1 a2 = some r) :
  Calls Try.prog 22 #[.agg #[.int .i64 a0_0, .slice A0_1 l0_1.length c0_1], .int .i64 a1, .int .i64 a2] w fun e w' => e = .returned (.int .i64 r) ∧ Below w.heap.size w w' := by
 have hu24:=Try.underlying24
 have HR0_1:=mk0 hr0_1
 have HC0_1:=mk0 hc0_1
 clear hr0_1 hc0_1
 have HB:=mk0 (Below.refl w.heap.size w)
 have H:((impl_Mins_read.f k a0_0 l0_1).bind fun bt155=>(if bt155.2 = true then ((impl_within.f a1 0 (bt155.1.length:Int)).bind fun t159=>(impl_MinsPrev.j0 k a1 a2 bt155.1 (!t159))) else (impl_MinsPrev.j0 k a1 a2 bt155.1 true))) = some r:=h
 clear h
 replace H:=Option.bind_eq_some_iff.mp H
 obtain⟨⟨t155,t158⟩,A40,H⟩:=H
 replace H:(if t158 = true then ((impl_within.f a1 0 (t155.length:Int)).bind fun t159=>(impl_MinsPrev.j0 k a1 a2 t155 (!t159))) else (impl_MinsPrev.j0 k a1 a2 t155 true)) = some r:=H
 have A4:=mk0 A40
 clear A40
 have HC5:=mk0 H
 clear H
 go_enter Try.func22,Try.ntmps22
 go_upto_region 2 with (first|((with_reducible refine gate_dst (N:=3) rfl ?_);(try (refine gate_guard (by rfl) ?_;dsimp only));refine box_event ?hg (N:=3) ?hd (cs:=#[.int .i64 a0_0,.slice A0_1 l0_1.length c0_1]) (t:=24) ?hr ?_;(case hd=>rfl);(case hg=>rfl);(case hr=>first|(go_simp;done)|(go_simp;rfl));intro gb154 hg w6 hbox hb;have n0_:=mk0 (below_step (by repeat (first|(with_reducible first|exact HB.out|apply aZ|apply nZ|apply dZ)|exact HB.out)) hb);have n1_:=mk0 (hbox);have n2_:=mk0 ((by rw [hg];exact (below_size (by repeat (first|(with_reducible first|exact HB.out|apply aZ|apply nZ|apply dZ)|exact HB.out))):w.heap.size ≤ gb154));have n3_:=mk0 ((by rw [hg];exact (below_size (by repeat (first|(with_reducible first|exact HB.out|apply aZ|apply nZ|apply dZ)|exact HB.out))):w.heap.size ≤ gb154));clear HB;have HB:=n0_;have BK154:=n1_;have GW154:=n2_;have GE154:=n3_;clear n0_ n1_ n2_ n3_ hb hbox hg;have hcz7_0:w6.cell? ⟨gb154,0,none⟩ = some (.int .i64 a0_0):=(blk_cell BK154.out 0).trans rfl;have hcz7_1:w6.cell? ⟨gb154,1,none⟩ = some (.slice A0_1 l0_1.length c0_1):=(blk_cell BK154.out 1).trans rfl;have hfz7_0:=blk_frozen BK154.out 0;have hfz7_1:=blk_frozen BK154.out 1)|((with_reducible refine gate_callee (f:=43) rfl ?_);refine goesL_ (some 11) rfl rfl Try.func43 (by kernel_rfl) rfl #[.agg #[.int .i64 a0_0,.slice A0_1 l0_1.length c0_1]] rfl (by (try simp only [mA,mC,mN]);first|done|rfl|(simp only [List.length_drop,List.length_take];rfl)) ?_;(with_reducible refine (impl_Mins_read.calls k a0_0 (fun k_=>k_ < w.heap.size) _ _ l0_1 t155 t158 _ ?side1 A4.out).mono ?_);(case side1=>exact Kd.V_mk HC0_1.out (Kd.F_below (Kd.C_F (Kd.heap_int .i64) HR0_1.out) (by repeat (first|(with_reducible first|exact HB.out|apply aZ|apply nZ|apply dZ|refine sZ ?_ GE154.out)|exact HB.out))));rintro e w8 ⟨v156,rfl,ho0,hb⟩;refine⟨_,rfl,?_⟩;have n0_:=mk0 (Kd.V_lower (Kd.V_mono (ok':=fun k_=>k_ ≠ gb154) ho0 (fun k_ hk_=>Or.elim hk_ (fun hs_=>fun e_=>Nat.not_le.2 hs_ (by rw [e_];exact GW154.out)) (fun hn_=>(Kd.freshB (g:=gb154) (o:=.cells #[.int .i64 a0_0,.slice A0_1 l0_1.length c0_1] 24 (0,0)) (by (with_reducible repeat (first|apply nB|apply dB|apply aB));exact BK154.out) k_ hn_)))) (below_size (by repeat (first|(with_reducible first|exact HB.out|apply aZ|apply nZ|apply dZ|refine sZ ?_ GE154.out)|exact HB.out))));have n1_:=mk0 (blk_below (g:=gb154) (o:=.cells #[.int .i64 a0_0,.slice A0_1 l0_1.length c0_1] 24 (0,0)) (by (with_reducible repeat (first|apply nB|apply dB|apply aB));exact BK154.out) hb);have n2_:=mk0 (below_step (by repeat (first|(with_reducible first|exact HB.out|apply aZ|apply nZ|apply dZ|refine sZ ?_ GE154.out)|exact HB.out)) hb);clear BK154 HB;have HO157:=n0_;have BK154:=n1_;have HB:=n2_;clear n0_ n1_ n2_;(try clear hb);(try clear hb2);(try clear hk);(try clear hi);(try clear ho0)))
 (try simp only [Act.put,sA,sO,sS])
 go_cut [22] (fun v22 wc=>∃ (kq:Nat) (x22_4:Bool),v22 = .bool x22_4 ∧ Aside0 (impl_MinsPrev.j0 kq a1 a2 t155 x22_4 = some r) ∧ Aside0 (kq ≤ k) ∧ Aside0 (Kd.V (Kd.int .i64) 3 wc w.heap.size (fun k_=>k_ ≠ gb154) v156 t155) ∧ Aside0 (wc.heap[gb154]? = some (.cells #[.int .i64 a0_0,(.slice A0_1 l0_1.length c0_1)] 24 (0,0))) ∧ Aside0 (Below w.heap.size w wc))
 case first =>
  have H:=HC5.out
  clear HC5
  by_cases c9:t158 = true
  ·subst c9
   have H1:((impl_within.f a1 0 (t155.length:Int)).bind fun t159=>(impl_MinsPrev.j0 k a1 a2 t155 (!t159))) = some r:=by rw [if_pos rfl] at H;exact H
   clear H
   have H:=H1
   clear H1
   replace H:=Option.bind_eq_some_iff.mp H
   obtain⟨t159,A100,H⟩:=H
   replace H:(impl_MinsPrev.j0 k a1 a2 t155 (!t159)) = some r:=H
   have A10:=mk0 A100
   clear A100
   have H':=mk0 H
   clear H
   obtain⟨Ao11,co11,eo11⟩:=Kd.V_slice HO157.out
   subst eo11
   go_wp2_with (first|(go_at_call 44;(with_reducible refine (impl_within.calls a1 0 (t155.length:Int) t159 _ A10.out).mono ?_);rintro e w' ⟨rfl,⟨nd,rfl⟩⟩))
   go_meet
   case rel=>exact⟨_,(!t159),(by first|rfl|(simp;done)|(simp [*];done)),H',⟨by first|omega|exact Nat.le_refl _⟩,⟨by (with_reducible repeat (first|apply aV|apply nV|apply dV));exact HO157.out⟩,⟨by (with_reducible repeat (first|apply nB|apply dB|apply aB));exact BK154.out⟩,⟨by repeat (first|(with_reducible first|exact HB.out|apply aZ|apply nZ|apply dZ|refine sZ ?_ GE154.out)|exact HB.out)⟩⟩
  ·replace c9:=Bool.eq_false_iff.mpr c9
   subst c9
   have H1:(impl_MinsPrev.j0 k a1 a2 t155 true) = some r:=by rw [if_neg (show ¬ (false = true) by decide)] at H;exact H
   clear H
   have H:=H1
   clear H1
   have H':=mk0 H
   clear H
   go_wp2
   go_meet
   case rel=>exact⟨_,(true),(by first|rfl|(simp;done)|(simp [*];done)),H',⟨by first|omega|exact Nat.le_refl _⟩,⟨by (with_reducible repeat (first|apply aV|apply nV|apply dV));exact HO157.out⟩,⟨by (with_reducible repeat (first|apply nB|apply dB|apply aB));exact BK154.out⟩,⟨by repeat (first|(with_reducible first|exact HB.out|apply aZ|apply nZ|apply dZ|refine sZ ?_ GE154.out)|exact HB.out)⟩⟩
 case rest =>
  clear HC5
  try clear c2
  try clear p2
  try clear c4
  try clear c9
  try clear hcz7_0
  try clear hcz7_1
  try clear hfz7_0
  try clear hfz7_1
  obtain⟨kq,x22_4,rfl,HA,HJ4,HO_7,BK154,HB⟩:=hcut
  cases kq with
  | zero=>exact absurd HA.out (by simp [impl_MinsPrev.j0])
  | succ kj4 =>
   have H:=HA.out
   clear HA
   simp only [impl_MinsPrev.j0] at H
   by_cases c12:x22_4 = true
   ·subst c12
    have H1:(some (-1)) = some r:=by rw [if_pos rfl] at H;exact H
    clear H
    have H:=H1
    clear H1
    obtain rfl:=Option.some.inj H
    go_wp2
    go_ret
    exact⟨by first|rfl|(simp [errW_none,errW_some] <;> rfl)|(simp [*,errW_none,errW_some] <;> rfl),by repeat (first|(with_reducible first|exact HB.out|apply aZ|apply nZ|apply dZ|refine sZ ?_ GE154.out)|exact HB.out)⟩
   ·replace c12:=Bool.eq_false_iff.mpr c12
    subst c12
    have H1:(impl_MinsPrev.l0 kj4 (wrap64 (a1 - 1)) a2 t155) = some r:=by rw [if_neg (show ¬ (false = true) by decide)] at H;exact H
    clear H
    have H:=H1
    clear H1
    have H':=mk0 H
    clear H
    go_wp2
    go_loopg [1] kj4 (fun kq v1 w'=>∃ (x1_2:Int),v1 = .int .i64 x1_2 ∧ Aside0 (impl_MinsPrev.l0 kq x1_2 a2 t155 = some r) ∧ Aside0 (kq ≤ kj4) ∧ Aside0 (Kd.V (Kd.int .i64) 3 w' w.heap.size (fun k_=>k_ ≠ gb154) v156 t155) ∧ Aside0 (w'.heap[gb154]? = some (.cells #[.int .i64 a0_0,(.slice A0_1 l0_1.length c0_1)] 24 (0,0))) ∧ Aside0 (Below w.heap.size w w'))
    case atStart=>exact⟨(wrap64 (a1 - 1)),(by first|rfl|(simp;done)|(simp [*];done)),H',⟨Nat.le_refl _⟩,⟨by (with_reducible repeat (first|apply aV|apply nV|apply dV));exact HO_7.out⟩,⟨by (with_reducible repeat (first|apply nB|apply dB|apply aB));exact BK154.out⟩,⟨by repeat (first|(with_reducible first|exact HB.out|apply aZ|apply nZ|apply dZ|refine sZ ?_ GE154.out)|exact HB.out)⟩⟩
    case round =>
     clear H'
     try clear c1
     try clear c2
     try clear p2
     try clear c4
     try clear p6
     try clear c9
     try clear c12
     try clear hcz7_0
     try clear hcz7_1
     try clear hfz7_0
     try clear hfz7_1
     try clear p2
     obtain⟨x1_2,rfl,HA,HK2,HO_7,BK154,HB⟩:=hrel
     cases gk with
     | zero=>exact absurd HA.out (by simp [impl_MinsPrev.l0])
     | succ k2 =>
      have H:=HA.out
      clear HA
      simp only [impl_MinsPrev.l0] at H
      by_cases c13:x1_2 ≥ 0
      ·rw [if_pos c13] at H
       have c13b0:decide (0 ≤ x1_2) = true:=decide_eq_true c13
       clear c13
       by_cases c14:0 ≤ x1_2
       ·rw [if_pos c14] at H
        have c14b0:decide (0 ≤ x1_2) = true:=decide_eq_true c14
        clear c14
        by_cases c15:x1_2 < (t155.length:Int)
        ·rw [if_pos c15] at H
         have c15b0:decide (x1_2 < (t155.length:Int)) = true:=decide_eq_true c15
         clear c15
         by_cases c16:(rd t155 x1_2) ≥ a2
         ·rw [if_pos c16] at H
          have c16b0:decide (a2 ≤ (rd t155 x1_2)) = true:=decide_eq_true c16
          clear c16
          have H':=mk0 H
          clear H
          obtain⟨Ao17,co17,eo17⟩:=Kd.V_slice HO_7.out
          subst eo17
          have p160:0 ≤ (x1_2:Int):=of_decide_eq_true (by first|(with_reducible assumption)|assumption)
          have q160:x1_2 < (t155.length:Int):=of_decide_eq_true (by first|(with_reducible assumption)|assumption)
          obtain⟨ad160,e160,hx160_0⟩:=Kd.at_int (Kd.V_reads' HO_7.out).2.2 x1_2 p160 q160
          cases e160
          replace p160:=eq_true p160
          replace q160:=eq_true q160
          go_wp2
          go_roundg k2
          case measure=>have:=HJ4.out;have:=HK2.out;omega
          case rel=>exact⟨(wrap64 (x1_2 - 1)),(by first|rfl|(simp;done)|(simp [*];done)),H',⟨by have:=HJ4.out;have:=HK2.out;omega⟩,⟨by (with_reducible repeat (first|apply aV|apply nV|apply dV));exact HO_7.out⟩,⟨by (with_reducible repeat (first|apply nB|apply dB|apply aB));exact BK154.out⟩,⟨by repeat (first|(with_reducible first|exact HB.out|apply aZ|apply nZ|apply dZ|refine sZ ?_ GE154.out)|exact HB.out)⟩⟩
         ·rw [if_neg c16] at H
          have c16b0:decide (a2 ≤ (rd t155 x1_2)) = false:=decide_eq_false c16
          clear c16
          obtain rfl:=Option.some.inj H
          obtain⟨Ao18,co18,eo18⟩:=Kd.V_slice HO_7.out
          subst eo18
          have p160:0 ≤ (x1_2:Int):=of_decide_eq_true (by first|(with_reducible assumption)|assumption)
          have q160:x1_2 < (t155.length:Int):=of_decide_eq_true (by first|(with_reducible assumption)|assumption)
          obtain⟨ad160,e160,hx160_0⟩:=Kd.at_int (Kd.V_reads' HO_7.out).2.2 x1_2 p160 q160
          cases e160
          replace p160:=eq_true p160
          replace q160:=eq_true q160
          go_wp2
          go_ret
          exact⟨by first|rfl|(simp [errW_none,errW_some] <;> rfl)|(simp [*,errW_none,errW_some] <;> rfl),by repeat (first|(with_reducible first|exact HB.out|apply aZ|apply nZ|apply dZ|refine sZ ?_ GE154.out)|exact HB.out)⟩
        ·rw [if_neg c15] at H
         exact absurd H (by simp)
       ·rw [if_neg c14] at H
        exact absurd H (by simp)
      ·rw [if_neg c13] at H
       have c13b0:decide (0 ≤ x1_2) = false:=decide_eq_false c13
       clear c13
       obtain rfl:=Option.some.inj H
       go_wp2
       go_ret
       exact⟨by first|rfl|(simp [errW_none,errW_some] <;> rfl)|(simp [*,errW_none,errW_some] <;> rfl),by repeat (first|(with_reducible first|exact HB.out|apply aZ|apply nZ|apply dZ|refine sZ ?_ GE154.out)|exact HB.out)⟩

end Go.Proofs.Ytpheodpcppclaaa.QFnMins
