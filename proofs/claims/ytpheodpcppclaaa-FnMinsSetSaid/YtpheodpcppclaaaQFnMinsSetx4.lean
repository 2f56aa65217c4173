-- A walk, made by walk.py, a program of this session's.
import Derived.Test.YtpheodpcppclaaaQFnMinsSetx0
import Derived.Test.YtpheodpcppclaaaQFnMinsSetx2
import Derived.Test.YtpheodpcppclaaaQFnMinsSetx3
namespace Go.Proofs.Ytpheodpcppclaaa.QFnMinsSet
open Go.RowKit Go.Proofs.YtpheodpcppclaaaW.PrintWords Go.Proofs.YtpheodpcppclaaaW.PrintLast Go.Proofs.YtpheodpcppclaaaW.PrintMore
attribute [local go_sem] max2_int min2_int max_two min_two max_three min_three max_four min_four   -- for this text's walks alone
set_option linter.unusedVariables false
set_option linter.unusedSimpArgs false

/-! ### slices_Equal_int_int: function 59 -/
def slices_Equal_int_int.l0 : Nat → List Int → List Int → Int → Int → Option (Bool)
 | 0, _, _, _, _ => none
 | k + 1, x0, x1, x12, x13 => if x13 < x12 then (if 0 ≤ x13 then (if x13 < (x0.length : Int) then (if x13 < (x1.length : Int) then (if (rd x0 x13) = (rd x1 x13) then (slices_Equal_int_int.l0 k x0 x1 x12 (wrap64 (x13 + 1))) else (some false)) else (none)) else (none)) else (none)) else (some true)
def slices_Equal_int_int.f (k : Nat) (l0 : List Int) (l1 : List Int) : Option (Bool) := if (l0.length : Int) = (l1.length : Int) then (slices_Equal_int_int.l0 k l0 l1 (l0.length : Int) 0) else (some false)
theorem slices_Equal_int_int.mono_l : ∀ k, (∀ y0 y1 y2 y3, LeO (slices_Equal_int_int.l0 k y0 y1 y2 y3) (slices_Equal_int_int.l0 (k + 1) y0 y1 y2 y3))
 | 0 => fun _ _ _ _ r h => by simp [slices_Equal_int_int.l0] at h
 | k + 1 => by
  have ih0 := slices_Equal_int_int.mono_l k
  ·intro y0 y1 y2 y3
   unfold slices_Equal_int_int.l0
   repeat' first|(with_reducible first|exact ih0 _ _ _ _|exact LeO.refl _|exact LeO.none _|refine LeO.ite ?_ ?_|refine LeO.bind ?_ (fun _ => ?_))|exact LeO.none _|refine LeO.ite ?_ ?_|refine LeO.bind ?_ (fun _ => ?_)
theorem slices_Equal_int_int.mono : ∀ a0 a1 k, LeO (slices_Equal_int_int.f k a0 a1) (slices_Equal_int_int.f (k + 1) a0 a1) := by
 intro a0 a1 k
 have ih0 := slices_Equal_int_int.mono_l k
 unfold slices_Equal_int_int.f
 repeat' first|(with_reducible first|exact ih0 _ _ _ _|exact LeO.refl _|exact LeO.none _|refine LeO.ite ?_ ?_|refine LeO.bind ?_ (fun _ => ?_))|exact LeO.none _|refine LeO.ite ?_ ?_|refine LeO.bind ?_ (fun _ => ?_)
set_option maxHeartbeats 8000000 in
set_option maxRecDepth 100000 in
theorem slices_Equal_int_int.calls (k : Nat) (A0 : Option Addr) (c0 : Nat) (l0 : List Int) (A1 : Option Addr) (c1 : Nat) (l1 : List Int) (r : Bool) (w : World) (hr0 : Kd.C (Kd.int .i64) w A0 l0.length l0) (hc0 : l0.length ≤ c0) (hr1 : Kd.C (Kd.int .i64) w A1 l1.length l1) (hc1 : l1.length ≤ c1) (h : slices_Equal_int_int.f k l0 l1 = some r) :
  Calls Try.prog 59 #[.slice A0 l0.length c0, .slice A1 l1.length c1] w fun e w' => e = .returned (.bool r) ∧ Drawn0 w w' := by
 have HR0:=mk0 hr0
 have HC0:=mk0 hc0
 clear hr0 hc0
 have HR1:=mk0 hr1
 have HC1:=mk0 hc1
 clear hr1 hc1
 have H:(if (l0.length:Int) = (l1.length:Int) then (slices_Equal_int_int.l0 k l0 l1 (l0.length:Int) 0) else (some false)) = some r:=h
 clear h
 by_cases c3:(l0.length:Int) = (l1.length:Int)
 ·rw [if_pos c3] at H
  have c3b0:((l0.length:Int) == (l1.length:Int)) = true:=beq_iff_eq.mpr c3
  have c3b1:((l0.length:Int) != (l1.length:Int)) = false:=bne_eq_false_iff_eq.mpr c3
  have c3b2:(l0.length == l1.length) = true:=by first|simpa using c3|(simp at c3 ⊢;omega)
  clear c3
  have H':=mk0 H
  clear H
  go_enter Try.func59,Try.ntmps59
  go_wp2
  repeat (go_quiet (fail);try go_wp2)
  go_loopg [13] k (fun kq v13 w'=>∃ (x13_1:Int),v13 = .int .i64 x13_1 ∧ Aside0 (slices_Equal_int_int.l0 kq l0 l1 (l0.length:Int) x13_1 = some r) ∧ Aside0 (kq ≤ k) ∧ Drawn0 w w')
  case atStart=>exact⟨(0),(by first|rfl|(simp;done)|(simp [*];done)),H',⟨Nat.le_refl _⟩,by repeat (first|exact Drawn0.refl _|apply Drawn0.step)⟩
  case round =>
   clear H'
   try clear c1
   try clear p2
   try clear c3
   try clear c3b0
   try clear c3b1
   try clear c3b2
   obtain⟨x13_1,rfl,HA,HK1,⟨m1,rfl⟩⟩:=hrel
   cases gk with
   | zero=>exact absurd HA.out (by simp [slices_Equal_int_int.l0])
   | succ k1 =>
    have H:=HA.out
    clear HA
    simp only [slices_Equal_int_int.l0] at H
    by_cases c4:x13_1 < (l0.length:Int)
    ·rw [if_pos c4] at H
     have c4b0:decide (x13_1 < (l0.length:Int)) = true:=decide_eq_true c4
     clear c4
     by_cases c5:0 ≤ x13_1
     ·rw [if_pos c5] at H
      have c5b0:decide (0 ≤ x13_1) = true:=decide_eq_true c5
      clear c5
      by_cases c6:x13_1 < (l0.length:Int)
      ·rw [if_pos c6] at H
       have c6b0:decide (x13_1 < (l0.length:Int)) = true:=decide_eq_true c6
       clear c6
       by_cases c7:x13_1 < (l1.length:Int)
       ·rw [if_pos c7] at H
        have c7b0:decide (x13_1 < (l1.length:Int)) = true:=decide_eq_true c7
        clear c7
        by_cases c8:(rd l0 x13_1) = (rd l1 x13_1)
        ·rw [if_pos c8] at H
         have c8b0:((rd l0 x13_1) == (rd l1 x13_1)) = true:=beq_iff_eq.mpr c8
         have c8b1:((rd l0 x13_1) != (rd l1 x13_1)) = false:=bne_eq_false_iff_eq.mpr c8
         clear c8
         have H':=mk0 H
         clear H
         have p179:0 ≤ (x13_1:Int):=of_decide_eq_true (by first|(with_reducible assumption)|assumption)
         have q179:x13_1 < (l0.length:Int):=of_decide_eq_true (by first|(with_reducible assumption)|assumption)
         obtain⟨ad179,e179,hx179_0⟩:=Kd.at_int HR0.out x13_1 p179 q179
         cases e179
         replace p179:=eq_true p179
         replace q179:=eq_true q179
         have p180:0 ≤ (x13_1:Int):=of_decide_eq_true (by first|(with_reducible assumption)|assumption)
         have q180:x13_1 < (l1.length:Int):=of_decide_eq_true (by first|(with_reducible assumption)|assumption)
         obtain⟨ad180,e180,hx180_0⟩:=Kd.at_int HR1.out x13_1 p180 q180
         cases e180
         replace p180:=eq_true p180
         replace q180:=eq_true q180
         go_wp2
         repeat (go_quiet (fail);try go_wp2)
         go_roundg k1
         case measure=>have:=HK1.out;omega
         case rel=>exact⟨(wrap64 (x13_1 + 1)),(by first|rfl|(simp;done)|(simp [*];done)),H',⟨by have:=HK1.out;omega⟩,by repeat (first|exact Drawn0.refl _|apply Drawn0.step)⟩
        ·rw [if_neg c8] at H
         have c8b0:((rd l0 x13_1) == (rd l1 x13_1)) = false:=beq_eq_false_iff_ne.mpr c8
         have c8b1:((rd l0 x13_1) != (rd l1 x13_1)) = true:=bne_iff_ne.mpr c8
         obtain rfl:=Option.some.inj H
         have p179:0 ≤ (x13_1:Int):=of_decide_eq_true (by first|(with_reducible assumption)|assumption)
         have q179:x13_1 < (l0.length:Int):=of_decide_eq_true (by first|(with_reducible assumption)|assumption)
         obtain⟨ad179,e179,hx179_0⟩:=Kd.at_int HR0.out x13_1 p179 q179
         cases e179
         replace p179:=eq_true p179
         replace q179:=eq_true q179
         have p180:0 ≤ (x13_1:Int):=of_decide_eq_true (by first|(with_reducible assumption)|assumption)
         have q180:x13_1 < (l1.length:Int):=of_decide_eq_true (by first|(with_reducible assumption)|assumption)
         obtain⟨ad180,e180,hx180_0⟩:=Kd.at_int HR1.out x13_1 p180 q180
         cases e180
         replace p180:=eq_true p180
         replace q180:=eq_true q180
         go_wp2
         repeat (go_quiet (fail);try go_wp2)
         go_ret
         exact⟨by first|rfl|(simp;done)|(simp [*];done),by repeat (first|exact Drawn0.refl _|apply Drawn0.step)⟩
       ·rw [if_neg c7] at H
        exact absurd H (by simp)
      ·rw [if_neg c6] at H
       exact absurd H (by simp)
     ·rw [if_neg c5] at H
      exact absurd H (by simp)
    ·rw [if_neg c4] at H
     have c4b0:decide (x13_1 < (l0.length:Int)) = false:=decide_eq_false c4
     clear c4
     obtain rfl:=Option.some.inj H
     go_wp2
     repeat (go_quiet (fail);try go_wp2)
     go_ret
     exact⟨by first|rfl|(simp;done)|(simp [*];done),by repeat (first|exact Drawn0.refl _|apply Drawn0.step)⟩
 ·rw [if_neg c3] at H
  have c3b0:((l0.length:Int) == (l1.length:Int)) = false:=beq_eq_false_iff_ne.mpr c3
  have c3b1:((l0.length:Int) != (l1.length:Int)) = true:=bne_iff_ne.mpr c3
  have c3b2:(l0.length == l1.length) = false:=by first|simpa using c3|(simp at c3 ⊢;omega)
  obtain rfl:=Option.some.inj H
  go_enter Try.func59,Try.ntmps59
  go_wp2
  repeat (go_quiet (fail);try go_wp2)
  go_ret
  exact⟨by first|rfl|(simp;done)|(simp [*];done),by repeat (first|exact Drawn0.refl _|apply Drawn0.step)⟩

/-! ### impl_Mins_read: function 43 -/
def impl_Mins_read.j0 : Nat → Int → Bool → Int → List Int → Option (List Int × Bool)
 | 0, _, _, _, _ => none
 | k + 1, x4, x21, x182000, x182001 => if x21 = true then (some (([] : List Int), false)) else (if 0 ≤ x4 then (if x4 ≤ (wrap64 (x4 + x182000)) then (if (wrap64 (x4 + x182000)) ≤ (x182001.length : Int) then ((some ((x182001.take ((wrap64 (x4 + x182000)) : Int).toNat).drop (x4 : Int).toNat : List Int)).bind fun y184 => ((impl_areMins.f y184).bind fun t189 => (if t189 = true then ((impl_minsOf.f k y184).bind fun bt190 => ((slices_Equal_int_int.f k bt190.2 x182001).bind fun t194 => (some (y184, t194)))) else (some (y184, false))))) else (none)) else (none)) else (none))
def impl_Mins_read.f (k : Nat) (a0_0 : Int) (l0_1 : List Int) : Option (List Int × Bool) := (impl_leaves.f k (mn a0_0 301)).bind fun t182 => ((impl_within.f a0_0 0 301).bind fun t183 => (if t183 = true then (impl_Mins_read.j0 k t182 ((l0_1.length : Int) != (wrap64 (2 * t182))) a0_0 l0_1) else (impl_Mins_read.j0 k t182 true a0_0 l0_1)))
theorem impl_Mins_read.mono_l : ∀ k, (∀ y0 y1 y2 y3, LeO (impl_Mins_read.j0 k y0 y1 y2 y3) (impl_Mins_read.j0 (k + 1) y0 y1 y2 y3))
 | 0 => fun _ _ _ _ r h => by simp [impl_Mins_read.j0] at h
 | k + 1 => by
  have ih0 := impl_Mins_read.mono_l k
  ·intro y0 y1 y2 y3
   unfold impl_Mins_read.j0
   repeat' first|(with_reducible first|exact ih0 _ _ _ _|exact impl_leaves.mono _ _|exact impl_minsOf.mono _ _|exact slices_Equal_int_int.mono _ _ _|exact LeO.refl _|exact LeO.none _|refine LeO.ite ?_ ?_|refine LeO.bind ?_ (fun _ => ?_))|exact LeO.none _|refine LeO.ite ?_ ?_|refine LeO.bind ?_ (fun _ => ?_)
theorem impl_Mins_read.mono : ∀ a0 a1 k, LeO (impl_Mins_read.f k a0 a1) (impl_Mins_read.f (k + 1) a0 a1) := by
 intro a0 a1 k
 have ih0 := impl_Mins_read.mono_l k
 unfold impl_Mins_read.f
 repeat' first|(with_reducible first|exact ih0 _ _ _ _|exact impl_leaves.mono _ _|exact impl_minsOf.mono _ _|exact slices_Equal_int_int.mono _ _ _|exact LeO.refl _|exact LeO.none _|refine LeO.ite ?_ ?_|refine LeO.bind ?_ (fun _ => ?_))|exact LeO.none _|refine LeO.ite ?_ ?_|refine LeO.bind ?_ (fun _ => ?_)
def impl_Mins_read.T5 : Bool × List (List Nat × List Nat) := (true, [([], []), ([], []), ([1], [1]), ([2, 2], [2]), ([3], [3]), ([4, 3, 3], [3, 4]), ([5, 3], [3, 5]), ([3], [3]), ([7, 3], [3, 7]), ([6, 8, 5, 3], [3, 6, 8]), ([3, 9], [3, 9]), ([0, 9, 0], [0]), ([10, 11, 0, 1, 2, 3, 4, 5, 6, 7, 8, 9, 10, 11], [10])])
def impl_Mins_read.B5 : List Nat := [0, 0, 2, 6, 14, 30, 62, 14, 142, 510, 1022, 1023, 4095]
theorem impl_Mins_read.tab5 : rtab .any (opsOf Try.f43 5) = impl_Mins_read.T5 := by kernel_rfl
theorem impl_Mins_read.bits5 : waitsOk impl_Mins_read.T5.2 impl_Mins_read.B5 = true := by kernel_rfl
abbrev impl_Mins_read.m0 : Array Bool := #[F,F,F,F,F,F,F,F,F,F,F,F,F]
abbrev impl_Mins_read.m1 : Array Bool := #[T,F,F,F,F,F,F,F,F,F,F,F,F]
abbrev impl_Mins_read.m2 : Array Bool := #[T,T,F,F,F,F,F,F,F,F,F,F,F]
abbrev impl_Mins_read.m3 : Array Bool := #[T,T,T,F,F,F,F,F,F,F,F,F,F]
abbrev impl_Mins_read.m4 : Array Bool := #[T,T,T,T,F,F,F,F,F,F,F,F,F]
abbrev impl_Mins_read.m5 : Array Bool := #[T,T,T,T,T,F,F,F,F,F,F,F,F]
abbrev impl_Mins_read.m6 : Array Bool := #[T,T,T,T,T,T,F,F,F,F,F,F,F]
abbrev impl_Mins_read.m7 : Array Bool := #[T,T,T,T,T,T,T,F,F,F,F,F,F]
abbrev impl_Mins_read.m8 : Array Bool := #[T,T,T,T,T,T,T,T,F,F,F,F,F]
abbrev impl_Mins_read.m9 : Array Bool := #[T,T,T,T,T,T,T,T,T,F,F,F,F]
abbrev impl_Mins_read.m10 : Array Bool := #[T,T,T,T,T,T,T,T,T,T,F,F,F]
abbrev impl_Mins_read.m11 : Array Bool := #[T,T,T,T,T,T,T,T,T,T,T,F,F]
abbrev impl_Mins_read.m12 : Array Bool := #[T,T,T,T,T,T,T,T,T,T,T,T,F]
abbrev impl_Mins_read.m13 : Array Bool := #[T,T,T,T,T,T,T,T,T,T,T,T,T]
abbrev impl_Mins_read.m14 : Array Bool := #[T,T,T,T,T,F,F,T,F,F,F,F,F]
abbrev impl_Mins_read.m15 : Array Bool := #[T,T,T,T,T,F,F,T,T,F,F,F,F]
abbrev impl_Mins_read.m16 : Array Bool := #[T,T,T,T,T,T,F,T,T,F,F,F,F]
set_option maxHeartbeats 8000000 in
set_option maxRecDepth 100000 in
theorem impl_Mins_read.calls (k : Nat) (a0_0 : Int) (P0_1_ : Nat → Prop) (A0_1 : Option Addr) (c0_1 : Nat) (l0_1 : List Int) (r1 : List Int) (r2 : Bool) (w : World) (hs0_1 : Kd.V (Kd.int .i64) 3 w w.heap.size (fun k_ => P0_1_ k_) (.slice A0_1 l0_1.length c0_1) l0_1) (h : impl_Mins_read.f k a0_0 l0_1 = some (r1, r2)) :
  Calls Try.prog 43 #[.agg #[.int .i64 a0_0, .slice A0_1 l0_1.length c0_1]] w fun e w' => ∃ v0_ : Value, e = .returned (.tuple #[v0_, .bool r2]) ∧ Kd.V (Kd.int .i64) 3 w' w.heap.size (fun k_ => (P0_1_ k_ ∨ w.heap.size ≤ k_)) v0_ r1 ∧ Below w.heap.size w w' := by
 have hu24:=Try.underlying24
 have hfd24_1:∀ (x0 x1:Value) (w_:World),(Instr.field 24 (.agg #[x0,x1]) 1).run Try.prog w_ = .ok x1 w_:=fun _ _ _=>by kernel_rfl
 have HO0_1:=mk0 (show Kd.V (Kd.int .i64) 3 w w.heap.size (fun k_=>(P0_1_ k_ ∨ w.heap.size ≤ k_)) (.slice A0_1 l0_1.length c0_1) l0_1 from Kd.V_mono hs0_1 (fun k_ hk=>.inl hk))
 have HB:=mk0 (Below.refl w.heap.size w)
 have H:((impl_leaves.f k (mn a0_0 301)).bind fun t182=>((impl_within.f a0_0 0 301).bind fun t183=>(if t183 = true then (impl_Mins_read.j0 k t182 ((l0_1.length:Int) != (wrap64 (2 * t182))) a0_0 l0_1) else (impl_Mins_read.j0 k t182 true a0_0 l0_1)))) = some (r1,r2):=h
 clear h
 obtain⟨ji2,hji2⟩:∃ j_:Int,(mn a0_0 301) = j_:=⟨_,rfl⟩
 replace H:((impl_leaves.f k (ji2)).bind fun t182=>((impl_within.f a0_0 0 301).bind fun t183=>(if t183 = true then (impl_Mins_read.j0 k t182 ((l0_1.length:Int) != (wrap64 (2 * t182))) a0_0 l0_1) else (impl_Mins_read.j0 k t182 true a0_0 l0_1)))) = some (r1,r2):=by first|(rw [hji2] at H;exact H)|(simp only [hji2] at H ⊢;exact H)
 (try (have hji2h:ji2 ≤ 301:=by (rw [← hji2];unfold mn;(repeat' split) <;> omega)))
 (try (have hji2g:ji2 ≤ 64:=by omega))
 have hji2_:(if 301 < a0_0 then 301 else a0_0) = ji2:=hji2
 replace H:=Option.bind_eq_some_iff.mp H
 obtain⟨t182,A30,H⟩:=H
 replace H:((impl_within.f a0_0 0 301).bind fun t183=>(if t183 = true then (impl_Mins_read.j0 k t182 ((l0_1.length:Int) != (wrap64 (2 * t182))) a0_0 l0_1) else (impl_Mins_read.j0 k t182 true a0_0 l0_1))) = some (r1,r2):=H
 have A3:=mk0 A30
 clear A30
 have HC4:=mk0 H
 clear H
 go_enter Try.func43,Try.ntmps43
 go_upto_region 2 with (first|((with_reducible refine gate_dst (N:=1) rfl ?_);(try (refine gate_guard (by rfl) ?_;dsimp only));refine box_event ?hg (N:=1) ?hd (cs:=#[.int .i64 a0_0,.slice A0_1 l0_1.length c0_1]) (t:=24) ?hr ?_;(case hd=>rfl);(case hg=>rfl);(case hr=>first|(go_simp;done)|(go_simp;rfl));intro gb181 hg w5 hbox hb;have n0_:=mk0 (Kd.V_below (Kd.V_elderB (by (with_reducible repeat (first|apply aV|apply nV|apply dV));exact HO0_1.out) gb181 (Nat.le_of_eq hg.symm)) hb);have n1_:=mk0 (below_step (by repeat (first|(with_reducible first|exact HB.out|apply aZ|apply nZ|apply dZ)|exact HB.out)) hb);have n2_:=mk0 (hbox);have n3_:=mk0 ((by rw [hg];exact (below_size (by repeat (first|(with_reducible first|exact HB.out|apply aZ|apply nZ|apply dZ)|exact HB.out))):w.heap.size ≤ gb181));have n4_:=mk0 ((by rw [hg];exact (below_size (by repeat (first|(with_reducible first|exact HB.out|apply aZ|apply nZ|apply dZ)|exact HB.out))):w.heap.size ≤ gb181));clear HO0_1 HB;have HO0_1:=n0_;have HB:=n1_;have BK181:=n2_;have GW181:=n3_;have GE181:=n4_;clear n0_ n1_ n2_ n3_ n4_ hb hbox hg;have hcz6_0:w5.cell? ⟨gb181,0,none⟩ = some (.int .i64 a0_0):=(blk_cell BK181.out 0).trans rfl;have hcz6_1:w5.cell? ⟨gb181,1,none⟩ = some (.slice A0_1 l0_1.length c0_1):=(blk_cell BK181.out 1).trans rfl;have hfz6_0:=blk_frozen BK181.out 0;have hfz6_1:=blk_frozen BK181.out 1)|((with_reducible refine gate_callee (f:=56) rfl ?_);refine goesL_ (some 9) rfl rfl Try.func56 (by kernel_rfl) rfl #[.int .i64 ji2] rfl (by (try simp only [mA,mC,mN]);first|done|(simp only [hji2];rfl)|rfl|(simp only [List.length_drop,List.length_take];rfl)) ?_;(with_reducible refine (impl_leaves.calls k ji2 t182 _ A3.out).mono ?_);rintro e w' ⟨rfl,⟨nd,rfl⟩⟩;refine⟨_,rfl,?_⟩))
 (try simp only [Act.put,sA,sO,sS])
 go_cut [21] (fun v21 wc=>∃ (kq:Nat) (x21_3:Bool),v21 = .bool x21_3 ∧ Aside0 (impl_Mins_read.j0 kq t182 x21_3 a0_0 l0_1 = some (r1,r2)) ∧ Aside0 (kq ≤ k) ∧ Aside0 (Kd.V (Kd.int .i64) 3 wc w.heap.size (fun k_=>(P0_1_ k_ ∨ w.heap.size ≤ k_) ∧ k_ ≠ gb181) (.slice A0_1 l0_1.length c0_1) l0_1) ∧ Aside0 (wc.heap[gb181]? = some (.cells #[.int .i64 a0_0,(.slice A0_1 l0_1.length c0_1)] 24 (0,0))) ∧ Aside0 (Below w.heap.size w wc))
 case first =>
  have H:=HC4.out
  clear HC4
  replace H:=Option.bind_eq_some_iff.mp H
  obtain⟨t183,A70,H⟩:=H
  replace H:(if t183 = true then (impl_Mins_read.j0 k t182 ((l0_1.length:Int) != (wrap64 (2 * t182))) a0_0 l0_1) else (impl_Mins_read.j0 k t182 true a0_0 l0_1)) = some (r1,r2):=H
  have A7:=mk0 A70
  clear A70
  by_cases c8:t183 = true
  rotate_left
  ·replace c8:=Bool.eq_false_iff.mpr c8
   subst c8
   have H1:(impl_Mins_read.j0 k t182 true a0_0 l0_1) = some (r1,r2):=by rw [if_neg (show ¬ (false = true) by decide)] at H;exact H
   clear H
   have H:=H1
   clear H1
   have H':=mk0 H
   clear H
   have hcz10_0:w5.cell? ⟨gb181,0,none⟩ = some (.int .i64 a0_0):=(blk_cell BK181.out 0).trans rfl
   have hcz10_1:w5.cell? ⟨gb181,1,none⟩ = some (.slice A0_1 l0_1.length c0_1):=(blk_cell BK181.out 1).trans rfl
   have hfz10_0:=blk_frozen BK181.out 0
   have hfz10_1:=blk_frozen BK181.out 1
   go_wp2_with (first|((with_reducible refine gate_callee (f:=44) rfl ?_);refine goesL_ (some 12) rfl rfl Try.func44 (by kernel_rfl) rfl #[.int .i64 a0_0,.int .i64 0,.int .i64 301] rfl (by (try simp only [mA,mC,mN]);first|done|rfl|(simp only [List.length_drop,List.length_take];rfl)) ?_;(with_reducible refine (impl_within.calls a0_0 0 301 false _ A7.out).mono ?_);rintro e w' ⟨rfl,⟨nd,rfl⟩⟩;refine⟨_,rfl,?_⟩))
   go_meet
   case rel=>exact⟨_,(true),(by first|rfl|(simp;done)|(simp [*];done)),H',⟨by first|omega|exact Nat.le_refl _⟩,⟨by (with_reducible repeat (first|apply aV|apply nV|apply dV));exact HO0_1.out⟩,⟨by (with_reducible repeat (first|apply nB|apply dB|apply aB));exact BK181.out⟩,⟨by repeat (first|(with_reducible first|exact HB.out|apply aZ|apply nZ|apply dZ|refine sZ ?_ GE181.out)|exact HB.out)⟩⟩
  subst c8
  have H1:(impl_Mins_read.j0 k t182 ((l0_1.length:Int) != (wrap64 (2 * t182))) a0_0 l0_1) = some (r1,r2):=by rw [if_pos rfl] at H;exact H
  clear H
  have H:=H1
  clear H1
  have H':=mk0 H
  clear H
  have hcz9_0:w5.cell? ⟨gb181,0,none⟩ = some (.int .i64 a0_0):=(blk_cell BK181.out 0).trans rfl
  have hcz9_1:w5.cell? ⟨gb181,1,none⟩ = some (.slice A0_1 l0_1.length c0_1):=(blk_cell BK181.out 1).trans rfl
  have hfz9_0:=blk_frozen BK181.out 0
  have hfz9_1:=blk_frozen BK181.out 1
  go_wp2_with (first|((with_reducible refine gate_callee (f:=44) rfl ?_);refine goesL_ (some 12) rfl rfl Try.func44 (by kernel_rfl) rfl #[.int .i64 a0_0,.int .i64 0,.int .i64 301] rfl (by (try simp only [mA,mC,mN]);first|done|rfl|(simp only [List.length_drop,List.length_take];rfl)) ?_;(with_reducible refine (impl_within.calls a0_0 0 301 true _ A7.out).mono ?_);rintro e w' ⟨rfl,⟨nd,rfl⟩⟩;refine⟨_,rfl,?_⟩))
  go_meet
  case rel=>exact⟨_,(((l0_1.length:Int) != (wrap64 (2 * t182)))),(by first|rfl|(simp;done)|(simp [*];done)),H',⟨by first|omega|exact Nat.le_refl _⟩,⟨by (with_reducible repeat (first|apply aV|apply nV|apply dV));exact HO0_1.out⟩,⟨by (with_reducible repeat (first|apply nB|apply dB|apply aB));exact BK181.out⟩,⟨by repeat (first|(with_reducible first|exact HB.out|apply aZ|apply nZ|apply dZ|refine sZ ?_ GE181.out)|exact HB.out)⟩⟩
 case rest =>
  clear HC4
  try clear p2
  try clear c4
  try clear c5
  try clear p6
  try clear c8
  try clear hcz10_0
  try clear hcz10_1
  try clear hcz6_0
  try clear hcz6_1
  try clear hcz9_0
  try clear hcz9_1
  try clear hfz10_0
  try clear hfz10_1
  try clear hfz6_0
  try clear hfz6_1
  try clear hfz9_0
  try clear hfz9_1
  obtain⟨kq,x21_3,rfl,HA,HJ3,HO_182001,BK181,HB⟩:=hcut
  cases kq with
  | zero=>exact absurd HA.out (by simp [impl_Mins_read.j0])
  | succ kj3 =>
   have H:=HA.out
   clear HA
   simp only [impl_Mins_read.j0] at H
   by_cases c11:x21_3 = true
   ·subst c11
    have H1:(some (([]:List Int),false)) = some (r1,r2):=by rw [if_pos rfl] at H;exact H
    clear H
    have H:=H1
    clear H1
    simp only [Option.some.injEq,Prod.mk.injEq] at H
    obtain⟨rfl,rfl⟩:=H
    go_wp2
    go_ret2
    exact⟨_,by first|rfl|(simp [errW_none,errW_some] <;> rfl)|(simp only [← hji2];first|rfl|(simp [errW_none,errW_some] <;> rfl))|(simp [*,errW_none,errW_some] <;> rfl),(by first|exact Kd.V_nil _ _ _ _ _|exact Kd.V_mono (Kd.R_V (by first|exact Kd.R_nil _ _ _ _ _|exact Kd.N_nil _ _ _ _ _|exact Kd.V_nil _ _ _ _ _|exact Kd.Q_nil _ _ _ _ _|exact Kd.S_nil _ _ _ _ _)) (fun k_ hk=>by first|exact⟨(.inr (hk.1)),hk.2⟩|exact (.inr (hk)))),by repeat (first|(with_reducible first|exact HB.out|apply aZ|apply nZ|apply dZ|refine sZ ?_ GE181.out)|exact HB.out)⟩
   replace c11:=Bool.eq_false_iff.mpr c11
   subst c11
   have H1:(if 0 ≤ t182 then (if t182 ≤ (wrap64 (t182 + a0_0)) then (if (wrap64 (t182 + a0_0)) ≤ (l0_1.length:Int) then ((some ((l0_1.take ((wrap64 (t182 + a0_0)):Int).toNat).drop (t182:Int).toNat:List Int)).bind fun y184=>((impl_areMins.f y184).bind fun t189=>(if t189 = true then ((impl_minsOf.f kj3 y184).bind fun bt190=>((slices_Equal_int_int.f kj3 bt190.2 l0_1).bind fun t194=>(some (y184,t194)))) else (some (y184,false))))) else (none)) else (none)) else (none)) = some (r1,r2):=by rw [if_neg (show ¬ (false = true) by decide)] at H;exact H
   clear H
   have H:=H1
   clear H1
   by_cases c12:0 ≤ t182
   rotate_left
   ·rw [if_neg c12] at H
    exact absurd H (by simp)

   rw [if_pos c12] at H
   have c12b0:=eq_true c12
   have c12b1:decide (0 ≤ t182) = true:=decide_eq_true c12
   clear c12
   by_cases c13:t182 ≤ (wrap64 (t182 + a0_0))
   rotate_left
   ·rw [if_neg c13] at H
    exact absurd H (by simp)
   rw [if_pos c13] at H
   have c13b0:=eq_true c13
   have c13b1:decide (t182 ≤ (wrap64 (t182 + a0_0))) = true:=decide_eq_true c13
   by_cases c14:(wrap64 (t182 + a0_0)) ≤ (l0_1.length:Int)
   rotate_left
   ·rw [if_neg c14] at H
    exact absurd H (by simp)
   rw [if_pos c14] at H
   have c14b0:=eq_true c14
   have c14b1:decide ((wrap64 (t182 + a0_0)) ≤ (l0_1.length:Int)) = true:=decide_eq_true c14
   obtain⟨y184,hy184⟩:∃ y_:List Int,y_ = ((l0_1.take ((wrap64 (t182 + a0_0)):Int).toNat).drop (t182:Int).toNat):=⟨_,rfl⟩
   replace H:((impl_areMins.f y184).bind fun t189=>(if t189 = true then ((impl_minsOf.f kj3 y184).bind fun bt190=>((slices_Equal_int_int.f kj3 bt190.2 l0_1).bind fun t194=>(some (y184,t194)))) else (some (y184,false)))) = some (r1,r2):=by first|(rw [hy184];with_reducible exact H)|(have H2_:=(Option.bind_some _ _).symm.trans H;rw [hy184];with_reducible exact H2_)|(have H2_:=(Option.bind_some _ _).symm.trans H;with_reducible exact H2_)|with_reducible exact H|(rw [hy184];exact H)|exact H
   have Ny184:=mk0 hy184
   clear hy184
   replace H:=Option.bind_eq_some_iff.mp H
   obtain⟨t189,A150,H⟩:=H
   replace H:(if t189 = true then ((impl_minsOf.f kj3 y184).bind fun bt190=>((slices_Equal_int_int.f kj3 bt190.2 l0_1).bind fun t194=>(some (y184,t194)))) else (some (y184,false))) = some (r1,r2):=H
   have A15:=mk0 A150
   clear A150
   by_cases c16:t189 = true
   rotate_left
   ·replace c16:=Bool.eq_false_iff.mpr c16
    subst c16
    have H1:(some (y184,false)) = some (r1,r2):=by rw [if_neg (show ¬ (false = true) by decide)] at H;exact H
    clear H
    have H:=H1
    clear H1
    simp only [Option.some.injEq,Prod.mk.injEq] at H
    obtain⟨rfl,rfl⟩:=H
    have hcz25_0:wc.cell? ⟨gb181,0,none⟩ = some (.int .i64 a0_0):=(blk_cell BK181.out 0).trans rfl
    have hcz25_1:wc.cell? ⟨gb181,1,none⟩ = some (.slice A0_1 l0_1.length c0_1):=(blk_cell BK181.out 1).trans rfl
    have hfz25_0:=blk_frozen BK181.out 0
    have hfz25_1:=blk_frozen BK181.out 1
    have q26:((wrap64 (t182 + a0_0)):Int) ≤ ((l0_1.length:Int):Int):=of_decide_eq_true (by first|(with_reducible assumption)|assumption)
    obtain⟨i026,hi026,_,hsz26,_⟩:=info_parts info3
    have hroom26:l0_1.length ≤ c0_1:=(Kd.V_reads' HO_182001.out).2.1
    have hC26:Kd.F (Kd.int .i64) _ _ A0_1 l0_1.length l0_1:=(Kd.V_at (base:=w.heap.size) HO_182001.out).2.2
    have ql26:(t182:Int) ≤ ((wrap64 (t182 + a0_0)):Int):=of_decide_eq_true (by first|(with_reducible assumption)|assumption)
    have q026:(0:Int) ≤ (t182:Int):=of_decide_eq_true (by first|(with_reducible assumption)|assumption)
    have hcut26:=cut_mid (P:=Try.prog) 22 3 .i64 .i64 Try.underlying22 hi026 1 hsz26 A0_1 l0_1.length c0_1 t182 (wrap64 (t182 + a0_0)) q026 ql26 q26 hroom26
    have hr26:=Kd.F_mid (lo:=(t182:Int).toNat) (hi:=((wrap64 (t182 + a0_0)):Int).toNat) (c:=c0_1) hC26 (by omega) (by omega) hroom26
    obtain⟨A26,hA26⟩:∃ A1,A1 = (if c0_1 = (t182:Int).toNat then A0_1 else (A0_1:Option Addr).map (·.add ((t182:Int).toNat * 1))):=⟨_,rfl⟩
    obtain⟨c26,hc26⟩:∃ c1,c1 = c0_1 - (t182:Int).toNat:=⟨_,rfl⟩
    have hy26:y184.length = ((wrap64 (t182 + a0_0)):Int).toNat - (t182:Int).toNat:=(by rw [Ny184.out,List.length_drop,List.length_take] <;> omega)
    rw [show ((l0_1).take ((wrap64 (t182 + a0_0)):Int).toNat).drop (t182:Int).toNat = y184 from Ny184.out.symm] at hr26
    replace hr26:Kd.F (Kd.int .i64) _ _ A26 y184.length y184:=(by rw [hA26];exact hr26)
    rw [← hy26, ← hA26, ← hc26] at hcut26
    have HO188:=mk0 (show Kd.V (Kd.int .i64) 3 _ w.heap.size _ (.slice A26 y184.length c26) y184 from Kd.V_mk (by rw [hy26,hc26];exact Nat.sub_le_sub_right (Nat.le_trans (by omega) hroom26) _) hr26)
    have HC188:=mk0 (show y184.length ≤ c26 from by rw [hy26,hc26];exact Nat.sub_le_sub_right (Nat.le_trans (by omega) hroom26) _)
    clear hr26 hC26 hroom26 hi026 hsz26 hc26
    have KY26:=mk0 hy26
    have KA26:=mk0 hA26
    clear hy26 hA26
    replace q26:=eq_true q26
    try go_wp2
    have n0_:=mk0 (dV HO_182001.out)
    have n1_:=mk0 (dV HO188.out)
    have n2_:=mk0 (dB BK181.out)
    have n3_:=mk0 (dZ HB.out)
    clear HO_182001
    clear HO188
    clear BK181
    clear HB
    have HO_182001:=n0_
    have HO188:=n1_
    have BK181:=n2_
    have HB:=n3_
    clear n0_ n1_ n2_ n3_
    refine start_ (n:=13) (S:=fun w'=>True) (ds:=[]) impl_Mins_read.m0 (by kernel_rfl) rfl rfl trivial (fun hHeld=>?_);refine with_tabW impl_Mins_read.tab5 impl_Mins_read.bits5 (fun HT_ HW_=>?_)
    generalize wc.drew = w27 at HO_182001 HO188 BK181 HB hHeld ⊢
    refine pure_ (i:=0) (N:=some 30) (v:=?_) (a':=?_) impl_Mins_read.m1 rfl rfl (any_of HT_.out (by kernel_rfl)) (fun _ _ _ h=>h) (Or.inl ⟨by rfl,?_⟩) ?_ ?_
    rotate_left
    ·intro w'
     go_simp
     with_reducible rfl
    rotate_left
    ·simp only [Act.put,sA,sO,sS,i64_w,i32_w]
     rfl
    refine pure_ (i:=1) (N:=some 31) (v:=?_) (a':=?_) impl_Mins_read.m2 rfl rfl (any_of HT_.out (by kernel_rfl)) (fun _ _ _ h=>h) (Or.inl ⟨by rfl,?_⟩) ?_ ?_
    rotate_left
    ·intro w'
     go_simp
     with_reducible rfl
    rotate_left
    ·simp only [Act.put,sA,sO,sS,i64_w,i32_w]
     rfl
    refine one_ (i:=2) (N:=some 32) impl_Mins_read.m3 rfl rfl (one_of HT_.out (by kernel_rfl)) (by decide) (fun K hK=>?_)
    refine goes_ Try.func38 (by kernel_rfl) rfl #[.slice A26 y184.length c26] (by rfl) rfl rfl (by (try simp only [mA,mC,mN]);first|done|rfl|(simp only [List.length_drop,List.length_take];rfl)) ?_
    with_reducible refine (impl_areMins.calls _ _ y184 false _ ?side1 ?side2 A15.out).mono ?_
    (case side1=>repeat (first|exact (Kd.V_reads' HO188.out).2.2|(with_reducible first|apply aC|apply nC|apply dC)))
    (case side2=>exact (Kd.V_reads' HO188.out).2.1)
    rintro e w28 ⟨rfl,hb⟩
    refine⟨_,rfl,?_⟩
    have n0_:=mk0 (Kd.V_below (by (with_reducible repeat (first|apply aV|apply nV|apply dV));exact HO_182001.out) hb)
    have n1_:=mk0 (Kd.V_below (by (with_reducible repeat (first|apply aV|apply nV|apply dV));exact HO188.out) hb)
    have n2_:=mk0 (blk_below (g:=gb181) (o:=.cells #[.int .i64 a0_0,.slice A0_1 l0_1.length c0_1] 24 (0,0)) (by (with_reducible repeat (first|apply nB|apply dB|apply aB));exact BK181.out) hb)
    have n3_:=mk0 (below_step (by repeat (first|(with_reducible first|exact HB.out|apply aZ|apply nZ|apply dZ|refine sZ ?_ GE181.out)|exact HB.out)) hb)
    clear HO_182001
    clear HO188
    clear BK181
    clear HB
    have HO_182001:=n0_
    have HO188:=n1_
    have BK181:=n2_
    have HB:=n3_
    clear n0_ n1_ n2_ n3_
    (try clear hb)
    (try clear hb2)
    (try clear hk)
    (try clear hi)
    refine hK.out _ _ trivial (fun hHeld=>?_)
    clear hK K
    refine norm_ (a':=?_) ?_ ?_
    rotate_left
    ·show Act.put _ (some 32) _ = _
     simp only [Act.put,sA,sO,sS,i64_w,i32_w]
     rfl
    refine pure_ (i:=3) (N:=some 33) (v:=?_) (a':=?_) impl_Mins_read.m4 rfl rfl (any_of HT_.out (by kernel_rfl)) (fun _ _ _ h=>h) (Or.inl ⟨by rfl,?_⟩) ?_ ?_
    rotate_left
    ·intro w'
     go_simp
     with_reducible rfl
    rotate_left
    ·simp only [Act.put,sA,sO,sS,i64_w,i32_w]
     rfl
    refine pure_ (i:=4) (N:=some 34) (v:=undef) (a':=?_) impl_Mins_read.m5 rfl rfl (any_of HT_.out (by kernel_rfl)) (fun _ _ _ h=>h) (Or.inr ⟨by rfl,rfl⟩) ?_ ?_
    rotate_left
    ·simp only [Act.put,sA,sO,sS,i64_w,i32_w]
     rfl
    refine pure_ (i:=5) (N:=some 35) (v:=undef) (a':=?_) impl_Mins_read.m6 rfl rfl (any_of HT_.out (by kernel_rfl)) (fun _ _ _ h=>h) (Or.inr ⟨by rfl,rfl⟩) ?_ ?_
    rotate_left
    ·simp only [Act.put,sA,sO,sS,i64_w,i32_w]
     rfl
    refine pure_ (i:=6) (N:=some 36) (v:=undef) (a':=?_) impl_Mins_read.m7 rfl rfl (any_of HT_.out (by kernel_rfl)) (fun _ _ _ h=>h) (Or.inr ⟨by rfl,rfl⟩) ?_ ?_
    rotate_left
    ·simp only [Act.put,sA,sO,sS,i64_w,i32_w]
     rfl
    refine pure_ (i:=7) (N:=some 37) (v:=undef) (a':=?_) impl_Mins_read.m8 rfl rfl (any_of HT_.out (by kernel_rfl)) (fun _ _ _ h=>h) (Or.inr ⟨by rfl,rfl⟩) ?_ ?_
    rotate_left
    ·simp only [Act.put,sA,sO,sS,i64_w,i32_w]
     rfl
    refine pure_ (i:=8) (N:=some 38) (v:=undef) (a':=?_) impl_Mins_read.m9 rfl rfl (any_of HT_.out (by kernel_rfl)) (fun _ _ _ h=>h) (Or.inr ⟨by rfl,rfl⟩) ?_ ?_
    rotate_left
    ·simp only [Act.put,sA,sO,sS,i64_w,i32_w]
     rfl
    refine pure_ (i:=9) (N:=some 39) (v:=undef) (a':=?_) impl_Mins_read.m10 rfl rfl (any_of HT_.out (by kernel_rfl)) (fun _ _ _ h=>h) (Or.inr ⟨by rfl,rfl⟩) ?_ ?_
    rotate_left
    ·simp only [Act.put,sA,sO,sS,i64_w,i32_w]
     rfl
    refine pure_ (i:=10) (N:=some 40) (v:=?_) (a':=?_) impl_Mins_read.m11 rfl rfl (any_of HT_.out (by kernel_rfl)) (fun _ _ _ h=>h) (Or.inl ⟨by rfl,?_⟩) ?_ ?_
    rotate_left
    ·intro w'
     go_simp
     with_reducible rfl
    rotate_left
    ·simp only [Act.put,sA,sO,sS,i64_w,i32_w]
     rfl
    refine pure_ (i:=11) (N:=some 2) (v:=?_) (a':=?_) impl_Mins_read.m12 rfl rfl (any_of HT_.out (by kernel_rfl)) (fun _ _ _ h=>h) (Or.inl ⟨by rfl,?_⟩) ?_ ?_
    rotate_left
    ·intro w'
     go_simp
     with_reducible rfl
    rotate_left
    ·simp only [Act.put,sA,sO,sS,i64_w,i32_w]
     rfl
    refine pure_ (i:=12) (N:=some 3) (v:=?_) (a':=?_) impl_Mins_read.m13 rfl rfl (any_of HT_.out (by kernel_rfl)) (fun _ _ _ h=>h) (Or.inl ⟨by rfl,?_⟩) ?_ ?_
    rotate_left
    ·intro w'
     go_simp
     with_reducible rfl
    rotate_left
    ·simp only [Act.put,sA,sO,sS,i64_w,i32_w]
     rfl
    refine done_ (done_of HT_.out (by kernel_rfl)) ?_
    try go_wp2
    go_ret2
    exact⟨_,by first|rfl|(simp [errW_none,errW_some] <;> rfl)|(simp only [← hji2];first|rfl|(simp [errW_none,errW_some] <;> rfl))|(simp [*,errW_none,errW_some] <;> rfl),by (with_reducible repeat (first|apply aV|apply nV|apply dV));exact Kd.V_mono HO188.out (fun _ hk=>hk.1),by repeat (first|(with_reducible first|exact HB.out|apply aZ|apply nZ|apply dZ|refine sZ ?_ GE181.out)|exact HB.out)⟩
   subst c16
   have H1:((impl_minsOf.f kj3 y184).bind fun bt190=>((slices_Equal_int_int.f kj3 bt190.2 l0_1).bind fun t194=>(some (y184,t194)))) = some (r1,r2):=by rw [if_pos rfl] at H;exact H
   clear H
   have H:=H1
   clear H1
   replace H:=Option.bind_eq_some_iff.mp H
   obtain⟨⟨t190,t191⟩,A170,H⟩:=H
   replace H:((slices_Equal_int_int.f kj3 t191 l0_1).bind fun t194=>(some (y184,t194))) = some (r1,r2):=H
   have A17:=mk0 A170
   clear A170
   replace H:=Option.bind_eq_some_iff.mp H
   obtain⟨t194,A180,H⟩:=H
   replace H:(some (y184,t194)) = some (r1,r2):=H
   have A18:=mk0 A180
   clear A180
   simp only [Option.some.injEq,Prod.mk.injEq] at H
   obtain⟨rfl,rfl⟩:=H
   have hcz19_0:wc.cell? ⟨gb181,0,none⟩ = some (.int .i64 a0_0):=(blk_cell BK181.out 0).trans rfl
   have hcz19_1:wc.cell? ⟨gb181,1,none⟩ = some (.slice A0_1 l0_1.length c0_1):=(blk_cell BK181.out 1).trans rfl
   have hfz19_0:=blk_frozen BK181.out 0
   have hfz19_1:=blk_frozen BK181.out 1
   have q20:((wrap64 (t182 + a0_0)):Int) ≤ ((l0_1.length:Int):Int):=of_decide_eq_true (by first|(with_reducible assumption)|assumption)
   obtain⟨i020,hi020,_,hsz20,_⟩:=info_parts info3
   have hroom20:l0_1.length ≤ c0_1:=(Kd.V_reads' HO_182001.out).2.1
   have hC20:Kd.F (Kd.int .i64) _ _ A0_1 l0_1.length l0_1:=(Kd.V_at (base:=w.heap.size) HO_182001.out).2.2
   have ql20:(t182:Int) ≤ ((wrap64 (t182 + a0_0)):Int):=of_decide_eq_true (by first|(with_reducible assumption)|assumption)
   have q020:(0:Int) ≤ (t182:Int):=of_decide_eq_true (by first|(with_reducible assumption)|assumption)
   have hcut20:=cut_mid (P:=Try.prog) 22 3 .i64 .i64 Try.underlying22 hi020 1 hsz20 A0_1 l0_1.length c0_1 t182 (wrap64 (t182 + a0_0)) q020 ql20 q20 hroom20
   have hr20:=Kd.F_mid (lo:=(t182:Int).toNat) (hi:=((wrap64 (t182 + a0_0)):Int).toNat) (c:=c0_1) hC20 (by omega) (by omega) hroom20
   obtain⟨A20,hA20⟩:∃ A1,A1 = (if c0_1 = (t182:Int).toNat then A0_1 else (A0_1:Option Addr).map (·.add ((t182:Int).toNat * 1))):=⟨_,rfl⟩
   obtain⟨c20,hc20⟩:∃ c1,c1 = c0_1 - (t182:Int).toNat:=⟨_,rfl⟩
   have hy20:y184.length = ((wrap64 (t182 + a0_0)):Int).toNat - (t182:Int).toNat:=(by rw [Ny184.out,List.length_drop,List.length_take] <;> omega)
   rw [show ((l0_1).take ((wrap64 (t182 + a0_0)):Int).toNat).drop (t182:Int).toNat = y184 from Ny184.out.symm] at hr20
   replace hr20:Kd.F (Kd.int .i64) _ _ A20 y184.length y184:=(by rw [hA20];exact hr20)
   rw [← hy20, ← hA20, ← hc20] at hcut20
   have HO188:=mk0 (show Kd.V (Kd.int .i64) 3 _ w.heap.size _ (.slice A20 y184.length c20) y184 from Kd.V_mk (by rw [hy20,hc20];exact Nat.sub_le_sub_right (Nat.le_trans (by omega) hroom20) _) hr20)
   have HC188:=mk0 (show y184.length ≤ c20 from by rw [hy20,hc20];exact Nat.sub_le_sub_right (Nat.le_trans (by omega) hroom20) _)
   clear hr20 hC20 hroom20 hi020 hsz20 hc20
   have KY20:=mk0 hy20
   have KA20:=mk0 hA20
   clear hy20 hA20
   replace q20:=eq_true q20
   try go_wp2
   have n0_:=mk0 (dV HO_182001.out)
   have n1_:=mk0 (dV HO188.out)
   have n2_:=mk0 (dB BK181.out)
   have n3_:=mk0 (dZ HB.out)
   clear HO_182001
   clear HO188
   clear BK181
   clear HB
   have HO_182001:=n0_
   have HO188:=n1_
   have BK181:=n2_
   have HB:=n3_
   clear n0_ n1_ n2_ n3_
   refine start_ (n:=13) (S:=fun w'=>w'.cell? ⟨gb181,0,none⟩ = some (.int .i64 a0_0) ∧ w'.cell? ⟨gb181,1,none⟩ = some (.slice A0_1 l0_1.length c0_1)) (ds:=[]) impl_Mins_read.m0 (by kernel_rfl) rfl rfl ⟨(blk_cell BK181.out 0).trans rfl,(blk_cell BK181.out 1).trans rfl⟩ (fun hHeld=>?_);refine with_tabW impl_Mins_read.tab5 impl_Mins_read.bits5 (fun HT_ HW_=>?_)
   generalize wc.drew = w21 at HO_182001 HO188 BK181 HB hHeld ⊢
   refine pure_ (i:=0) (N:=some 30) (v:=?_) (a':=?_) impl_Mins_read.m1 rfl rfl (any_of HT_.out (by kernel_rfl)) (fun _ _ _ h=>h) (Or.inl ⟨by rfl,?_⟩) ?_ ?_
   rotate_left
   ·intro w'
    go_simp
    with_reducible rfl
   rotate_left
   ·simp only [Act.put,sA,sO,sS,i64_w,i32_w]
    rfl
   refine pure_ (i:=1) (N:=some 31) (v:=?_) (a':=?_) impl_Mins_read.m2 rfl rfl (any_of HT_.out (by kernel_rfl)) (fun _ _ _ h=>h) (Or.inl ⟨by rfl,?_⟩) ?_ ?_
   rotate_left
   ·intro w'
    go_simp
    with_reducible rfl
   rotate_left
   ·simp only [Act.put,sA,sO,sS,i64_w,i32_w]
    rfl
   refine one_ (i:=2) (N:=some 32) impl_Mins_read.m3 rfl rfl (one_of HT_.out (by kernel_rfl)) (by decide) (fun K hK=>?_)
   refine goes_ Try.func38 (by kernel_rfl) rfl #[.slice A20 y184.length c20] (by rfl) rfl rfl (by (try simp only [mA,mC,mN]);first|done|rfl|(simp only [List.length_drop,List.length_take];rfl)) ?_
   with_reducible refine (impl_areMins.calls _ _ y184 true _ ?side1 ?side2 A15.out).mono ?_
   (case side1=>repeat (first|exact (Kd.V_reads' HO188.out).2.2|(with_reducible first|apply aC|apply nC|apply dC)))
   (case side2=>exact (Kd.V_reads' HO188.out).2.1)
   rintro e w22 ⟨rfl,hb⟩
   refine⟨_,rfl,?_⟩
   have n0_:=mk0 (Kd.V_below (by (with_reducible repeat (first|apply aV|apply nV|apply dV));exact HO_182001.out) hb)
   have n1_:=mk0 (Kd.V_below (by (with_reducible repeat (first|apply aV|apply nV|apply dV));exact HO188.out) hb)
   have n2_:=mk0 (blk_below (g:=gb181) (o:=.cells #[.int .i64 a0_0,.slice A0_1 l0_1.length c0_1] 24 (0,0)) (by (with_reducible repeat (first|apply nB|apply dB|apply aB));exact BK181.out) hb)
   have n3_:=mk0 (below_step (by repeat (first|(with_reducible first|exact HB.out|apply aZ|apply nZ|apply dZ|refine sZ ?_ GE181.out)|exact HB.out)) hb)
   clear HO_182001
   clear HO188
   clear BK181
   clear HB
   have HO_182001:=n0_
   have HO188:=n1_
   have BK181:=n2_
   have HB:=n3_
   clear n0_ n1_ n2_ n3_
   (try clear hb)
   (try clear hb2)
   (try clear hk)
   (try clear hi)
   refine hK.out _ _ ⟨(blk_cell BK181.out 0).trans rfl,(blk_cell BK181.out 1).trans rfl⟩ (fun hHeld=>?_)
   clear hK K
   refine norm_ (a':=?_) ?_ ?_
   rotate_left
   ·show Act.put _ (some 32) _ = _
    simp only [Act.put,sA,sO,sS,i64_w,i32_w]
    rfl
   refine pure_ (i:=3) (N:=some 33) (v:=?_) (a':=?_) impl_Mins_read.m4 rfl rfl (any_of HT_.out (by kernel_rfl)) (fun _ _ _ h=>h) (Or.inl ⟨by rfl,?_⟩) ?_ ?_
   rotate_left
   ·intro w'
    go_simp
    with_reducible rfl
   rotate_left
   ·simp only [Act.put,sA,sO,sS,i64_w,i32_w]
    rfl
   refine pure_ (i:=4) (N:=some 34) (v:=?_) (a':=?_) impl_Mins_read.m5 rfl rfl (any_of HT_.out (by kernel_rfl)) (fun _ _ _ h=>h) (Or.inl ⟨by rfl,?_⟩) ?_ ?_
   rotate_left
   ·intro w'
    go_simp
    with_reducible rfl
   rotate_left
   ·simp only [Act.put,sA,sO,sS,i64_w,i32_w]
    rfl
   refine pure_ (i:=7) (N:=some 37) (v:=?_) (a':=?_) impl_Mins_read.m14 rfl rfl (any_of HT_.out (by kernel_rfl)) (fun _ _ _ h=>h) (Or.inl ⟨by rfl,?_⟩) ?_ ?_
   rotate_left
   ·intro w'
    go_simp
    with_reducible rfl
   rotate_left
   ·simp only [Act.put,sA,sO,sS,i64_w,i32_w]
    rfl
   refine take_ (i:=8) (N:=some 38) (v:=?_) (a':=?_) impl_Mins_read.m15 rfl rfl (take_ofW HT_.out HW_.out (by kernel_rfl)) (fun _ _ _ h=>h) (Or.inl ⟨by rfl,?_⟩) hHeld ?_ ?_
   rotate_left
   ·rintro w' ⟨s0,s1⟩
    go_simp
    with_reducible rfl
   rotate_left
   ·simp only [Act.put,sA,sO,sS,i64_w,i32_w]
    rfl
   refine one_ (i:=5) (N:=some 35) impl_Mins_read.m16 rfl rfl (one_of HT_.out (by kernel_rfl)) (by decide) (fun K hK=>?_)
   refine goes_ Try.func39 (by kernel_rfl) rfl #[.slice A20 y184.length c20] (by rfl) rfl rfl (by (try simp only [mA,mC,mN]);first|done|rfl|(simp only [List.length_drop,List.length_take];rfl)) ?_
   with_reducible refine (impl_minsOf.calls kj3 _ _ y184 t190 t191 _ ?side1 ?side2 A17.out).mono ?_
   (case side1=>repeat (first|exact (Kd.V_reads' HO188.out).2.2|(with_reducible first|apply aC|apply nC|apply dC)))
   (case side2=>exact (Kd.V_reads' HO188.out).2.1)
   rintro e w23 ⟨v192,rfl,ho0,hb⟩
   refine⟨_,rfl,?_⟩
   have n0_:=mk0 (Kd.V_elder' (by (with_reducible repeat (first|apply aV|apply nV|apply dV));exact HO_182001.out) (Kd.R_base ho0) hb)
   have n1_:=mk0 (Kd.V_elder' (by (with_reducible repeat (first|apply aV|apply nV|apply dV));exact HO188.out) (Kd.R_base ho0) hb)
   have n2_:=mk0 (Kd.R_lower (Kd.R_newM (M:=fun k_=>(w.heap.size ≤ k_)) ho0 (below_size (by repeat (first|(with_reducible first|exact HB.out|apply aZ|apply nZ|apply dZ|refine sZ ?_ GE181.out)|exact HB.out))) (fun k_ h_=>h_)) (below_size (by repeat (first|(with_reducible first|exact HB.out|apply aZ|apply nZ|apply dZ|refine sZ ?_ GE181.out)|exact HB.out))))
   have n3_:=mk0 (blk_below (g:=gb181) (o:=.cells #[.int .i64 a0_0,.slice A0_1 l0_1.length c0_1] 24 (0,0)) (by (with_reducible repeat (first|apply nB|apply dB|apply aB));exact BK181.out) hb)
   have n4_:=mk0 (below_step (by repeat (first|(with_reducible first|exact HB.out|apply aZ|apply nZ|apply dZ|refine sZ ?_ GE181.out)|exact HB.out)) hb)
   clear HO_182001
   clear HO188
   clear BK181
   clear HB
   have HO_182001:=n0_
   have HO188:=n1_
   have HO193:=n2_
   have BK181:=n3_
   have HB:=n4_
   clear n0_ n1_ n2_ n3_ n4_
   (try clear hb)
   (try clear hb2)
   (try clear hk)
   (try clear hi)
   (try clear ho0)
   obtain⟨Ao24,co24,eo24⟩:=Kd.R_slice HO193.out
   (first|subst eo24|(injection eo24 with f1_ f2_ f3_;have f4_:=f1_.symm;have f5_:=f3_.symm;clear f1_ f2_ f3_;subst f4_;subst f5_))
   refine hK.out _ _ ⟨(blk_cell BK181.out 0).trans rfl,(blk_cell BK181.out 1).trans rfl⟩ (fun hHeld=>?_)
   clear hK K
   refine norm_ (a':=?_) ?_ ?_
   rotate_left
   ·show Act.put _ (some 35) _ = _
    simp only [Act.put,sA,sO,sS,i64_w,i32_w]
    rfl
   refine pure_ (i:=6) (N:=some 36) (v:=?_) (a':=?_) impl_Mins_read.m9 rfl rfl (any_of HT_.out (by kernel_rfl)) (fun _ _ _ h=>h) (Or.inl ⟨by rfl,?_⟩) ?_ ?_
   rotate_left
   ·intro w'
    go_simp
    with_reducible rfl
   rotate_left
   ·simp only [Act.put,sA,sO,sS,i64_w,i32_w]
    rfl
   refine one_ (i:=9) (N:=some 39) impl_Mins_read.m10 rfl rfl (one_of HT_.out (by kernel_rfl)) (by decide) (fun K hK=>?_)
   refine goes_ Try.func59 (by kernel_rfl) rfl #[.slice Ao24 t191.length co24,.slice A0_1 l0_1.length c0_1] (by rfl) rfl rfl (by (try simp only [mA,mC,mN]);first|done|rfl|(simp only [List.length_drop,List.length_take];rfl)) ?_
   with_reducible refine (slices_Equal_int_int.calls kj3 _ _ t191 _ _ l0_1 t194 _ ?side1 ?side2 ?side3 ?side4 A18.out).mono ?_
   (case side1=>repeat (first|exact (Kd.R_reads' HO193.out).2.2|(with_reducible first|apply aC|apply nC|apply dC)))
   (case side2=>exact (Kd.R_reads' HO193.out).2.1)
   (case side3=>repeat (first|exact (Kd.V_reads' HO_182001.out).2.2|(with_reducible first|apply aC|apply nC|apply dC)))
   (case side4=>exact (Kd.V_reads' HO_182001.out).2.1)
   rintro e w' ⟨rfl,⟨nd,rfl⟩⟩
   refine⟨_,rfl,?_⟩
   refine hK.out _ _ ⟨(blk_cell BK181.out 0).trans rfl,(blk_cell BK181.out 1).trans rfl⟩ (fun hHeld=>?_)
   clear hK K
   refine norm_ (a':=?_) ?_ ?_
   rotate_left
   ·show Act.put _ (some 39) _ = _
    simp only [Act.put,sA,sO,sS,i64_w,i32_w]
    rfl
   refine pure_ (i:=10) (N:=some 40) (v:=?_) (a':=?_) impl_Mins_read.m11 rfl rfl (any_of HT_.out (by kernel_rfl)) (fun _ _ _ h=>h) (Or.inl ⟨by rfl,?_⟩) ?_ ?_
   rotate_left
   ·intro w'
    go_simp
    with_reducible rfl
   rotate_left
   ·simp only [Act.put,sA,sO,sS,i64_w,i32_w]
    rfl
   refine pure_ (i:=11) (N:=some 2) (v:=?_) (a':=?_) impl_Mins_read.m12 rfl rfl (any_of HT_.out (by kernel_rfl)) (fun _ _ _ h=>h) (Or.inl ⟨by rfl,?_⟩) ?_ ?_
   rotate_left
   ·intro w'
    go_simp
    with_reducible rfl
   rotate_left
   ·simp only [Act.put,sA,sO,sS,i64_w,i32_w]
    rfl
   refine pure_ (i:=12) (N:=some 3) (v:=?_) (a':=?_) impl_Mins_read.m13 rfl rfl (any_of HT_.out (by kernel_rfl)) (fun _ _ _ h=>h) (Or.inl ⟨by rfl,?_⟩) ?_ ?_
   rotate_left
   ·intro w'
    go_simp
    with_reducible rfl
   rotate_left
   ·simp only [Act.put,sA,sO,sS,i64_w,i32_w]
    rfl
   refine done_ (done_of HT_.out (by kernel_rfl)) ?_
   try go_wp2
   go_ret2
   exact⟨_,by first|rfl|(simp [errW_none,errW_some] <;> rfl)|(simp only [← hji2];first|rfl|(simp [errW_none,errW_some] <;> rfl))|(simp [*,errW_none,errW_some] <;> rfl),by (with_reducible repeat (first|apply aV|apply nV|apply dV));exact Kd.V_mono HO188.out (fun _ hk=>hk.1.1),by repeat (first|(with_reducible first|exact HB.out|apply aZ|apply nZ|apply dZ|refine sZ ?_ GE181.out)|exact HB.out)⟩
/-! ### impl_isRange: function 45 -/
def impl_isRange.f (a0 : Int) (a1 : Int) (a2 : Int) : Option (Bool) := if 0 ≤ a0 then (if a0 ≤ a1 then (some (decide (a1 ≤ a2))) else (some false)) else (some false)
set_option maxHeartbeats 8000000 in
set_option maxRecDepth 100000 in
theorem impl_isRange.calls (a0 : Int) (a1 : Int) (a2 : Int) (r : Bool) (w : World) (h : impl_isRange.f a0 a1 a2 = some r) :
  Calls Try.prog 45 #[.int .i64 a0, .int .i64 a1, .int .i64 a2] w fun e w' => e = .returned (.bool r) ∧ Drawn0 w w' := by
 have H:(if 0 ≤ a0 then (if a0 ≤ a1 then (some (decide (a1 ≤ a2))) else (some false)) else (some false)) = some r:=h
 clear h
 by_cases c4:0 ≤ a0
 ·rw [if_pos c4] at H
  have c4b0:decide (0 ≤ a0) = true:=decide_eq_true c4
  clear c4
  by_cases c5:a0 ≤ a1
  ·rw [if_pos c5] at H
   have c5b0:decide (a0 ≤ a1) = true:=decide_eq_true c5
   clear c5
   obtain rfl:=Option.some.inj H
   go_enter Try.func45,Try.ntmps45
   go_wp2
   go_ret
   exact⟨by first|rfl|(simp;done)|(simp [*];done),by repeat (first|exact Drawn0.refl _|apply Drawn0.step)⟩
  ·rw [if_neg c5] at H
   have c5b0:decide (a0 ≤ a1) = false:=decide_eq_false c5
   clear c5
   obtain rfl:=Option.some.inj H
   go_enter Try.func45,Try.ntmps45
   go_wp2
   go_ret
   exact⟨by first|rfl|(simp;done)|(simp [*];done),by repeat (first|exact Drawn0.refl _|apply Drawn0.step)⟩
 ·rw [if_neg c4] at H
  have c4b0:decide (0 ≤ a0) = false:=decide_eq_false c4
  clear c4
  obtain rfl:=Option.some.inj H
  go_enter Try.func45,Try.ntmps45
  go_wp2
  go_ret
  exact⟨by first|rfl|(simp;done)|(simp [*];done),by repeat (first|exact Drawn0.refl _|apply Drawn0.step)⟩

/-! ### slices_Min_int_int: function 46 -/
def slices_Min_int_int.l0 : Nat → List Int → Int → Int → Option (Int)
 | 0, _, _, _ => none
 | k + 1, x0, x3, x4 => if x4 < (x0.length : Int) then (if 0 ≤ x4 then (slices_Min_int_int.l0 k x0 (mn x3 (rd x0 x4)) (wrap64 (x4 + 1))) else (none)) else (some x3)
def slices_Min_int_int.f (k : Nat) (l0 : List Int) : Option (Int) := if (l0.length : Int) < 1 then (none) else (if 0 < (l0.length : Int) then (slices_Min_int_int.l0 k l0 (rd l0 0) 1) else (none))
theorem slices_Min_int_int.mono_l : ∀ k, (∀ y0 y1 y2, LeO (slices_Min_int_int.l0 k y0 y1 y2) (slices_Min_int_int.l0 (k + 1) y0 y1 y2))
 | 0 => fun _ _ _ r h => by simp [slices_Min_int_int.l0] at h
 | k + 1 => by
  have ih0 := slices_Min_int_int.mono_l k
  ·intro y0 y1 y2
   unfold slices_Min_int_int.l0
   repeat' first|(with_reducible first|exact ih0 _ _ _|exact LeO.refl _|exact LeO.none _|refine LeO.ite ?_ ?_|refine LeO.bind ?_ (fun _ => ?_))|exact LeO.none _|refine LeO.ite ?_ ?_|refine LeO.bind ?_ (fun _ => ?_)
theorem slices_Min_int_int.mono : ∀ a0 k, LeO (slices_Min_int_int.f k a0) (slices_Min_int_int.f (k + 1) a0) := by
 intro a0 k
 have ih0 := slices_Min_int_int.mono_l k
 unfold slices_Min_int_int.f
 repeat' first|(with_reducible first|exact ih0 _ _ _|exact LeO.refl _|exact LeO.none _|refine LeO.ite ?_ ?_|refine LeO.bind ?_ (fun _ => ?_))|exact LeO.none _|refine LeO.ite ?_ ?_|refine LeO.bind ?_ (fun _ => ?_)
set_option maxHeartbeats 8000000 in
set_option maxRecDepth 100000 in
theorem slices_Min_int_int.calls (k : Nat) (A0 : Option Addr) (c0 : Nat) (l0 : List Int) (r : Int) (w : World) (hr0 : Kd.C (Kd.int .i64) w A0 l0.length l0) (hc0 : l0.length ≤ c0) (h : slices_Min_int_int.f k l0 = some r) :
  Calls Try.prog 46 #[.slice A0 l0.length c0] w fun e w' => e = .returned (.int .i64 r) ∧ Below w.heap.size w w' := by
 have HR0:=mk0 hr0
 have HC0:=mk0 hc0
 clear hr0 hc0
 have HB:=mk0 (Below.refl w.heap.size w)
 have H:(if (l0.length:Int) < 1 then (none) else (if 0 < (l0.length:Int) then (slices_Min_int_int.l0 k l0 (rd l0 0) 1) else (none))) = some r:=h
 clear h
 by_cases c2:(l0.length:Int) < 1
 ·rw [if_pos c2] at H
  exact absurd H (by simp)
 ·rw [if_neg c2] at H
  have c2b0:decide ((l0.length:Int) < 1) = false:=decide_eq_false c2
  have c2b1:decide (l0.length < 1) = false:=decide_eq_false (by omega)
  clear c2
  by_cases c3:0 < (l0.length:Int)
  ·rw [if_pos c3] at H
   have c3b0:decide (0 < (l0.length:Int)) = true:=decide_eq_true c3
   have c3b1:decide (0 < l0.length) = true:=decide_eq_true (by omega)
   clear c3
   have H':=mk0 H
   clear H
   have p195:0 ≤ (0:Int):=(by omega)
   have q195:0 < (l0.length:Int):=of_decide_eq_true (by first|(with_reducible assumption)|assumption)
   obtain⟨ad195,e195,hx195_0⟩:=Kd.at_int HR0.out 0 p195 q195
   cases e195
   have qi195:(0 < l0.length) = True:=eq_true (by omega)
   (try rw [show ((0:Int)).toNat = 0 from rfl] at hx195_0)
   (try rw [Addr.add_zero'] at hx195_0)
   replace p195:=eq_true p195
   replace q195:=eq_true q195
   go_enter Try.func46,Try.ntmps46
   go_wp2
   go_loopg [3,4] k (fun kq v3 v4 w'=>∃ (x3_1:Int) (x4_1:Int),v3 = .int .i64 x3_1 ∧ v4 = .int .i64 x4_1 ∧ Aside0 (slices_Min_int_int.l0 kq l0 x3_1 x4_1 = some r) ∧ Aside0 (kq ≤ k) ∧ Aside0 (Below w.heap.size w w'))
   case atStart=>exact⟨(rd l0 0),(1),(by first|rfl|(simp;done)|(simp [*];done)),(by first|rfl|(simp;done)|(simp [*];done)),H',⟨Nat.le_refl _⟩,⟨by repeat (first|(with_reducible first|exact HB.out|apply aZ|apply nZ|apply dZ)|exact HB.out)⟩⟩
   case round =>
    clear H'
    try clear p1
    try clear q1
    try clear hx1
    try clear qi1
    try clear c2
    try clear c2b0
    try clear c2b1
    try clear p2
    try clear c3
    try clear c3b0
    try clear c3b1
    try clear hx195_0
    try clear p195
    try clear q195
    obtain⟨x3_1,x4_1,rfl,rfl,HA,HK1,HB⟩:=hrel
    cases gk with
    | zero=>exact absurd HA.out (by simp [slices_Min_int_int.l0])
    | succ k1 =>
     have H:=HA.out
     clear HA
     simp only [slices_Min_int_int.l0] at H
     by_cases c4:x4_1 < (l0.length:Int)
     ·rw [if_pos c4] at H
      have c4b0:decide (x4_1 < (l0.length:Int)) = true:=decide_eq_true c4
      clear c4
      by_cases c5:0 ≤ x4_1
      ·rw [if_pos c5] at H
       have c5b0:decide (0 ≤ x4_1) = true:=decide_eq_true c5
       clear c5
       obtain⟨ji6,hji6⟩:∃ j_:Int,(mn x3_1 (rd l0 x4_1)) = j_:=⟨_,rfl⟩
       replace H:(slices_Min_int_int.l0 k1 l0 ji6 (wrap64 (x4_1 + 1))) = some r:=by first|(rw [hji6] at H;exact H)|(simp only [hji6] at H ⊢;exact H)
       have hji6_:(if (rd l0 x4_1) < x3_1 then (rd l0 x4_1) else x3_1) = ji6:=hji6
       have H':=mk0 H
       clear H
       have p196:0 ≤ (x4_1:Int):=of_decide_eq_true (by first|(with_reducible assumption)|assumption)
       have q196:x4_1 < (l0.length:Int):=of_decide_eq_true (by first|(with_reducible assumption)|assumption)
       obtain⟨ad196,e196,hx196_0⟩:=Kd.at_int HR0.out x4_1 p196 q196
       obtain rfl:ad195 = ad196:=(by injection e196)
       replace hx196_0:=(HB.out.cell (World.block_lt_of_cell? w _ hx196_0)).trans hx196_0
       replace p196:=eq_true p196
       replace q196:=eq_true q196
       go_wp2
       go_roundg k1
       case measure=>have:=HK1.out;omega
       case rel=>exact⟨(ji6),(wrap64 (x4_1 + 1)),(by first|rfl|(simp;done)|(simp only [← hji6] <;> (first|rfl|simp))|(simp [*];done)),(by first|rfl|(simp;done)|(simp [*];done)),H',⟨by have:=HK1.out;omega⟩,⟨by repeat (first|(with_reducible first|exact HB.out|apply aZ|apply nZ|apply dZ)|exact HB.out)⟩⟩
      ·rw [if_neg c5] at H
       exact absurd H (by simp)
     ·rw [if_neg c4] at H
      have c4b0:decide (x4_1 < (l0.length:Int)) = false:=decide_eq_false c4
      clear c4
      obtain rfl:=Option.some.inj H
      go_wp2
      go_ret
      exact⟨by first|rfl|(simp [errW_none,errW_some] <;> rfl)|(simp [*,errW_none,errW_some] <;> rfl),by repeat (first|(with_reducible first|exact HB.out|apply aZ|apply nZ|apply dZ)|exact HB.out)⟩
  ·rw [if_neg c3] at H
   exact absurd H (by simp)

end Go.Proofs.Ytpheodpcppclaaa.QFnMinsSet
