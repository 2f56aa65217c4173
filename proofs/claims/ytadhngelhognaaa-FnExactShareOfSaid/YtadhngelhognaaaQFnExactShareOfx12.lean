-- A walk, made by walk.py, a program of this session's.
import Derived.Test.YtadhngelhognaaaQFnExactShareOfx0
import Derived.Test.YtadhngelhognaaaQFnExactShareOfx7
import Derived.Test.YtadhngelhognaaaQFnExactShareOfx8
import Derived.Test.YtadhngelhognaaaQFnExactShareOfx9
import Derived.Test.YtadhngelhognaaaQFnExactShareOfx11
namespace Go.Proofs.Ytadhngelhognaaa.QFnExactShareOf
open Go.RowKit Go.Proofs.YtadhngelhognaaaW.PrintWords Go.Proofs.YtadhngelhognaaaW.PrintLast Go.Proofs.YtadhngelhognaaaW.PrintMore
set_option linter.unusedVariables false
set_option linter.unusedSimpArgs false
attribute [local go_sem] max2_int min2_int max_two min_two max_three min_three max_four min_four
mutual
def impl_shareOf.l0 : Nat → Int → List (S56) → List Int → List Int → List (S48) → Int → Int → Option ((List (S56)))
 | 0, _, _, _, _, _, _, _ => none
 | k + 1, x3, x11, x17, x19, x23, x24, x25 => if x25 < x24 then (if 0 ≤ x25 then (if x25 < (x23.length : Int) then (if 0 ≤ ((rd_T48 x23 x25).f1) then (if ((rd_T48 x23 x25).f1) ≤ ((rd_T48 x23 x25).f2) then (if ((rd_T48 x23 x25).f2) ≤ (x17.length : Int) then (if 0 ≤ ((rd_T48 x23 x25).f3) then (if ((rd_T48 x23 x25).f3) ≤ ((rd_T48 x23 x25).f4) then (if ((rd_T48 x23 x25).f4) ≤ (x19.length : Int) then ((impl_CommonWithin.f k ((x17.take (((rd_T48 x23 x25).f2) : Int).toNat).drop (((rd_T48 x23 x25).f1) : Int).toNat) ((x19.take (((rd_T48 x23 x25).f4) : Int).toNat).drop (((rd_T48 x23 x25).f3) : Int).toNat) x3).bind fun t452 => (impl_shareOf.l1 k x3 x11 x17 x19 x23 x24 x25 t452 (t452.length : Int) 0 ((rd_T48 x23 x25).f0) ((rd_T48 x23 x25).f1) ((rd_T48 x23 x25).f2) ((rd_T48 x23 x25).f3) ((rd_T48 x23 x25).f4))) else (none)) else (none)) else (none)) else (none)) else (none)) else (none)) else (none)) else (none)) else (some x11)
def impl_shareOf.l1 : Nat → Int → List (S56) → List Int → List Int → List (S48) → Int → Int → List (S56) → Int → Int → List Int → Int → Int → Int → Int → Option ((List (S56)))
 | 0, _, _, _, _, _, _, _, _, _, _, _, _, _, _, _ => none
 | k + 1, x3, x11, x17, x19, x23, x24, x25, x42, x43, x44, x442000, x442001, x442002, x442003, x442004 => if x44 < x43 then (if 0 ≤ x44 then (if x44 < (x42.length : Int) then (if x11.length < 8796093022208 then (impl_shareOf.l1 k x3 (x11 ++ [(⟨wrap64 (((rd_T56 x42 x44).f0) + x442001), wrap64 (((rd_T56 x42 x44).f1) + x442003)⟩ : S56)]) x17 x19 x23 x24 x25 x42 x43 (wrap64 (x44 + 1)) x442000 x442001 x442002 x442003 x442004) else (none)) else (none)) else (none)) else (impl_shareOf.l0 k x3 x11 x17 x19 x23 x24 (wrap64 (x25 + 1)))
end
def impl_shareOf.f (k : Nat) (l0 : List Int) (l1 : List Int) (a2 : Int) (a3 : Int) : Option ((List (S56))) := (impl_bwtOf.f k l0).bind fun t431 => ((impl_bwtOf.f k l1).bind fun t434 => ((impl_parts.f k l0 l1 a2).bind fun t437 => (impl_shareOf.l0 k a3 ([] : List (S56)) t431 t434 t437 (t437.length : Int) 0)))
theorem impl_shareOf.mono_l : ∀ k, (∀ y0 y1 y2 y3 y4 y5 y6, LeO (impl_shareOf.l0 k y0 y1 y2 y3 y4 y5 y6) (impl_shareOf.l0 (k + 1) y0 y1 y2 y3 y4 y5 y6)) ∧ (∀ y0 y1 y2 y3 y4 y5 y6 y7 y8 y9 y10 y11 y12 y13 y14, LeO (impl_shareOf.l1 k y0 y1 y2 y3 y4 y5 y6 y7 y8 y9 y10 y11 y12 y13 y14) (impl_shareOf.l1 (k + 1) y0 y1 y2 y3 y4 y5 y6 y7 y8 y9 y10 y11 y12 y13 y14))
 | 0 => ⟨fun _ _ _ _ _ _ _ r h => by simp [impl_shareOf.l0] at h, fun _ _ _ _ _ _ _ _ _ _ _ _ _ _ _ r h => by simp [impl_shareOf.l1] at h⟩
 | k + 1 => by
  obtain ⟨ih0, ih1⟩ := impl_shareOf.mono_l k
  refine ⟨?_, ?_⟩
  ·intro y0 y1 y2 y3 y4 y5 y6
   unfold impl_shareOf.l0
   repeat' first|(with_reducible first|exact ih0 _ _ _ _ _ _ _|exact ih1 _ _ _ _ _ _ _ _ _ _ _ _ _ _ _|exact impl_CommonWithin.mono _ _ _ _|exact impl_bwtOf.mono _ _|exact impl_parts.mono _ _ _ _|exact LeO.refl _|exact LeO.none _|refine LeO.ite ?_ ?_|refine LeO.bind ?_ (fun _ => ?_))|exact LeO.none _|refine LeO.ite ?_ ?_|refine LeO.bind ?_ (fun _ => ?_)
  ·intro y0 y1 y2 y3 y4 y5 y6 y7 y8 y9 y10 y11 y12 y13 y14
   unfold impl_shareOf.l1
   repeat' first|(with_reducible first|exact ih0 _ _ _ _ _ _ _|exact ih1 _ _ _ _ _ _ _ _ _ _ _ _ _ _ _|exact impl_CommonWithin.mono _ _ _ _|exact impl_bwtOf.mono _ _|exact impl_parts.mono _ _ _ _|exact LeO.refl _|exact LeO.none _|refine LeO.ite ?_ ?_|refine LeO.bind ?_ (fun _ => ?_))|exact LeO.none _|refine LeO.ite ?_ ?_|refine LeO.bind ?_ (fun _ => ?_)
theorem impl_shareOf.mono : ∀ a0 a1 a2 a3 k, LeO (impl_shareOf.f k a0 a1 a2 a3) (impl_shareOf.f (k + 1) a0 a1 a2 a3) := by
 intro a0 a1 a2 a3 k
 obtain ⟨ih0, ih1⟩ := impl_shareOf.mono_l k
 unfold impl_shareOf.f
 repeat' first|(with_reducible first|exact ih0 _ _ _ _ _ _ _|exact ih1 _ _ _ _ _ _ _ _ _ _ _ _ _ _ _|exact impl_CommonWithin.mono _ _ _ _|exact impl_bwtOf.mono _ _|exact impl_parts.mono _ _ _ _|exact LeO.refl _|exact LeO.none _|refine LeO.ite ?_ ?_|refine LeO.bind ?_ (fun _ => ?_))|exact LeO.none _|refine LeO.ite ?_ ?_|refine LeO.bind ?_ (fun _ => ?_)
def impl_shareOf.T6 : Bool × List (List Nat × List Nat) := (true, [([], []), ([], []), ([1], [1]), ([], []), ([3], [3]), ([0, 2, 4], [0, 2, 4]), ([], []), ([], []), ([7], [7]), ([], []), ([9], [9]), ([6, 8, 10], [6, 8, 10]), ([], []), ([5, 11, 12], [5, 11, 12]), ([13], [13]), ([], [])])
def impl_shareOf.B6 : List Nat := [0, 0, 2, 0, 8, 31, 0, 0, 128, 0, 512, 1984, 0, 8191, 16383, 0]
theorem impl_shareOf.tab6 : rtab .any (opsOf Try.f41 6) = impl_shareOf.T6 := by kernel_rfl
theorem impl_shareOf.bits6 : waitsOk impl_shareOf.T6.2 impl_shareOf.B6 = true := by kernel_rfl
abbrev impl_shareOf.m0 : Array Bool := #[F,F,F,F,F,F,F,F,F,F,F,F,F,F,F,F]
abbrev impl_shareOf.m1 : Array Bool := #[T,F,F,F,F,F,F,F,F,F,F,F,F,F,F,F]
abbrev impl_shareOf.m2 : Array Bool := #[T,T,F,F,F,F,F,F,F,F,F,F,F,F,F,F]
abbrev impl_shareOf.m3 : Array Bool := #[T,T,F,T,F,F,F,F,F,F,F,F,F,F,F,F]
abbrev impl_shareOf.m4 : Array Bool := #[T,T,F,T,F,F,T,F,F,F,F,F,F,F,F,F]
abbrev impl_shareOf.m5 : Array Bool := #[T,T,F,T,F,F,T,T,F,F,F,F,F,F,F,F]
abbrev impl_shareOf.m6 : Array Bool := #[T,T,F,T,F,F,T,T,F,T,F,F,F,F,F,F]
abbrev impl_shareOf.m7 : Array Bool := #[T,T,F,T,F,F,T,T,F,T,F,F,T,F,F,F]
abbrev impl_shareOf.m8 : Array Bool := #[T,T,F,T,F,F,T,T,F,T,F,F,T,F,F,T]
abbrev impl_shareOf.m9 : Array Bool := #[T,T,T,T,F,F,T,T,F,T,F,F,T,F,F,T]
abbrev impl_shareOf.m10 : Array Bool := #[T,T,T,T,T,F,T,T,F,T,F,F,T,F,F,T]
abbrev impl_shareOf.m11 : Array Bool := #[T,T,T,T,T,T,T,T,F,T,F,F,T,F,F,T]
abbrev impl_shareOf.m12 : Array Bool := #[T,T,T,T,T,T,T,T,T,T,F,F,T,F,F,T]
abbrev impl_shareOf.m13 : Array Bool := #[T,T,T,T,T,T,T,T,T,T,T,F,T,F,F,T]
abbrev impl_shareOf.m14 : Array Bool := #[T,T,T,T,T,T,T,T,T,T,T,T,T,F,F,T]
abbrev impl_shareOf.m15 : Array Bool := #[T,T,T,T,T,T,T,T,T,T,T,T,T,T,F,T]
abbrev impl_shareOf.m16 : Array Bool := #[T,T,T,T,T,T,T,T,T,T,T,T,T,T,T,T]
set_option maxHeartbeats 8000000 in
set_option maxRecDepth 100000 in
theorem impl_shareOf.calls (k : Nat) (A0 : Option Addr) (c0 : Nat) (l0 : List Int) (A1 : Option Addr) (c1 : Nat) (l1 : List Int) (a2 : Int) (a3 : Int) (r : List (S56)) (w : World) (hr0 : Kd.C (Kd.int .u8) w A0 l0.length l0) (hc0 : l0.length ≤ c0) (hr1 : Kd.C (Kd.int .u8) w A1 l1.length l1) (hc1 : l1.length ≤ c1) (h : impl_shareOf.f k l0 l1 a2 a3 = some r) :
  Calls Try.prog 41 #[.slice A0 l0.length c0, .slice A1 l1.length c1, .int .i64 a2, .int .i64 a3] w fun e w' => ∃ v0_ : Value, e = .returned (v0_) ∧ Kd.R k56 56 w' w.heap.size (fun _ => True) v0_ r ∧ Below w.heap.size w w' := by
 have hu48:=Try.underlying48
 have hu56:=Try.underlying56
 have HR0:=mk0 hr0
 have HC0:=mk0 hc0
 clear hr0 hc0
 have HR1:=mk0 hr1
 have HC1:=mk0 hc1
 clear hr1 hc1
 have HB:=mk0 (Below.refl w.heap.size w)
 have H:((impl_bwtOf.f k l0).bind fun t431=>((impl_bwtOf.f k l1).bind fun t434=>((impl_parts.f k l0 l1 a2).bind fun t437=>(impl_shareOf.l0 k a3 ([]:List (S56)) t431 t434 t437 (t437.length:Int) 0)))) = some r:=h
 clear h
 replace H:=Option.bind_eq_some_iff.mp H
 obtain⟨t431,A50,H⟩:=H
 replace H:((impl_bwtOf.f k l1).bind fun t434=>((impl_parts.f k l0 l1 a2).bind fun t437=>(impl_shareOf.l0 k a3 ([]:List (S56)) t431 t434 t437 (t437.length:Int) 0))) = some r:=H
 have A5:=mk0 A50
 clear A50
 replace H:=Option.bind_eq_some_iff.mp H
 obtain⟨t434,A60,H⟩:=H
 replace H:((impl_parts.f k l0 l1 a2).bind fun t437=>(impl_shareOf.l0 k a3 ([]:List (S56)) t431 t434 t437 (t437.length:Int) 0)) = some r:=H
 have A6:=mk0 A60
 clear A60
 replace H:=Option.bind_eq_some_iff.mp H
 obtain⟨t437,A70,H⟩:=H
 replace H:(impl_shareOf.l0 k a3 ([]:List (S56)) t431 t434 t437 (t437.length:Int) 0) = some r:=H
 have A7:=mk0 A70
 clear A70
 have H':=mk0 H
 clear H
 go_enter Try.func41,Try.ntmps41
 go_wp2_with (first|((with_reducible refine gate_callee (f:=40) rfl ?_);refine goesL_ (some 17) rfl rfl Try.func40 (by kernel_rfl) rfl #[.slice A0 l0.length c0] rfl (by (try simp only [mA,mC,mN]);first|done|rfl|(simp only [List.length_drop,List.length_take];done)|(simp only [List.length_drop,List.length_take];rfl)) ?_;(with_reducible refine (impl_bwtOf.calls k _ _ l0 t431 _ ?side1 ?side2 A5.out).mono ?_);(case side1=>repeat (first|exact HR0.out|(with_reducible first|apply aC|apply nC|apply dC)));(case side2=>exact HC0.out);rintro e w8 ⟨v432,rfl,ho0,hb⟩;refine⟨_,rfl,?_⟩;have HO433:=mk0 (Kd.R_lower ho0 (kZ HB.out));replace HB:=mk0 (kS HB.out hb);(try clear hb);(try clear ho0))|((with_reducible refine gate_callee (f:=40) rfl ?_);refine goesL_ (some 19) rfl rfl Try.func40 (by kernel_rfl) rfl #[.slice A1 l1.length c1] rfl (by (try simp only [mA,mC,mN]);first|done|rfl|(simp only [List.length_drop,List.length_take];done)|(simp only [List.length_drop,List.length_take];rfl)) ?_;(with_reducible refine (impl_bwtOf.calls k _ _ l1 t434 _ ?side1 ?side2 A6.out).mono ?_);(case side1=>exact kC (Kd.C_below HR1.out HB.out));(case side2=>exact HC1.out);rintro e w9 ⟨v435,rfl,ho0,hb⟩;refine⟨_,rfl,?_⟩;have HO436:=mk0 (Kd.R_lower (Kd.R_new' ho0 (Kd.R_lt (rR HO433.out))) (kZ HB.out));replace HO433:=mk0 (Kd.R_elder' (rR HO433.out) (Kd.R_base ho0) hb);replace HB:=mk0 (kS HB.out hb);(try clear hb);(try clear ho0))|((with_reducible refine gate_callee (f:=55) rfl ?_);refine goesL_ (some 23) rfl rfl Try.func55 (by kernel_rfl) rfl #[.slice A0 l0.length c0,.slice A1 l1.length c1,.int .i64 a2] rfl (by (try simp only [mA,mC,mN]);first|done|rfl|(simp only [List.length_drop,List.length_take];done)|(simp only [List.length_drop,List.length_take];rfl)) ?_;(with_reducible refine (impl_parts.calls k _ _ l0 _ _ l1 a2 t437 _ ?side1 ?side2 ?side3 ?side4 A7.out).mono ?_);(case side1=>exact kC (Kd.C_below HR0.out HB.out));(case side2=>exact HC0.out);(case side3=>exact kC (Kd.C_below HR1.out HB.out));(case side4=>exact HC1.out);rintro e w10 ⟨v438,rfl,ho0,hb⟩;refine⟨_,rfl,?_⟩;have HO439:=mk0 (Kd.N_lower (Kd.N_mono (ok':=fun k_=>some k_ ≠ (v432:Value).ownBlock ∧ some k_ ≠ (v435:Value).ownBlock) ho0 (fun k_ hk_=>⟨(Kd.fresh' (Kd.R_lt (rR HO433.out)) k_ hk_),(Kd.fresh' (Kd.R_lt (rR HO436.out)) k_ hk_)⟩)) (kZ HB.out));replace HO433:=mk0 (bR HO433.out hb);replace HO436:=mk0 (bR HO436.out hb);replace HB:=mk0 (kS HB.out hb);(try clear hb);(try clear ho0);obtain⟨Ao11,co11,eo11⟩:=Kd.N_slice HO439.out;subst eo11))
 go_loopg [11,25] k (fun kq v11 v25 w'=>∃ (x11_1:List (S56)) (x25_1:Int),v25 = .int .i64 x25_1 ∧ Aside0 (impl_shareOf.l0 kq a3 x11_1 t431 t434 t437 (t437.length:Int) x25_1 = some r) ∧ Aside0 (kq ≤ k) ∧ Aside0 (Kd.R k56 56 w' w.heap.size (fun _=>True) v11 x11_1) ∧ Aside0 (Kd.R (Kd.int .i64) 3 w' w.heap.size (fun k_=>some k_ ≠ (v435:Value).ownBlock) v432 t431) ∧ Aside0 (Kd.R (Kd.int .i64) 3 w' w.heap.size (fun k_=>some k_ ≠ (v432:Value).ownBlock) v435 t434) ∧ Aside0 (Kd.N k48 48 w' w.heap.size (fun k_=>some k_ ≠ (v11:Value).ownBlock ∧ some k_ ≠ (v432:Value).ownBlock ∧ some k_ ≠ (v435:Value).ownBlock) (.slice Ao11 t437.length co11) t437) ∧ Aside0 (Below w.heap.size w w'))
 case atStart=>exact⟨(([]:List (S56))),(0),(by first|rfl|(simp;done)|(simp [*];done)),H',⟨Nat.le_refl _⟩,⟨by first|exact Kd.R_nil _ _ _ _ _|exact Kd.N_nil _ _ _ _ _|exact Kd.V_nil _ _ _ _ _|exact Kd.Q_nil _ _ _ _ _|exact Kd.S_nil _ _ _ _ _⟩,⟨rR (Kd.R_mono HO433.out (fun _ hk=>hk.2))⟩,⟨rR (Kd.R_mono HO436.out (fun _ hk=>hk.2))⟩,⟨by (with_reducible repeat (first|apply aN|apply nN|apply dN));exact Kd.N_mono HO439.out (fun _ hk=>⟨(by simp [Value.ownBlock]),⟨hk.1,hk.2⟩⟩)⟩,⟨kB HB.out⟩⟩
 case round =>
  clear H'
  try clear c1
  try clear p2
  try clear c4
  try clear c5
  obtain⟨x11_1,x25_1,rfl,HA,HK1,HO_11,HO_17,HO_19,HO_23,HB⟩:=hrel
  cases gk with
  | zero=>exact absurd HA.out (by simp [impl_shareOf.l0])
  | succ k1 =>
   have H:=HA.out
   clear HA
   simp only [impl_shareOf.l0] at H
   by_cases c12:x25_1 < (t437.length:Int)
   rotate_left
   ·rw [if_neg c12] at H
    have c12b0:decide (x25_1 < (t437.length:Int)) = false:=decide_eq_false c12
    (try simp only [hl440_0] at c12b0)
    clear c12
    obtain rfl:=Option.some.inj H
    go_wp2
    go_ret
    exact⟨_,by first|rfl|(simp [errW_none,errW_some] <;> rfl)|(simp [*,errW_none,errW_some] <;> rfl),rR HO_11.out,kB HB.out⟩
   rw [if_pos c12] at H
   have c12b0:decide (x25_1 < (t437.length:Int)) = true:=decide_eq_true c12
   (try simp only [hl440_0] at c12b0)
   clear c12
   by_cases c13:0 ≤ x25_1
   rotate_left
   ·rw [if_neg c13] at H
    exact absurd H (by simp)
   rw [if_pos c13] at H
   have c13b0:decide (0 ≤ x25_1) = true:=decide_eq_true c13
   clear c13
   by_cases c14:x25_1 < (t437.length:Int)
   rotate_left
   ·rw [if_neg c14] at H
    exact absurd H (by simp)
   rw [if_pos c14] at H
   have c14b0:decide (x25_1 < (t437.length:Int)) = true:=decide_eq_true c14
   (try simp only [hl440_0] at c14b0)
   clear c14
   by_cases c15:0 ≤ ((rd_T48 t437 x25_1).f1)
   rotate_left
   ·rw [if_neg c15] at H
    exact absurd H (by simp)
   rw [if_pos c15] at H
   have c15b0:=eq_true c15
   have c15b1:decide (0 ≤ ((rd_T48 t437 x25_1).f1)) = true:=decide_eq_true c15
   clear c15
   by_cases c16:((rd_T48 t437 x25_1).f1) ≤ ((rd_T48 t437 x25_1).f2)
   rotate_left
   ·rw [if_neg c16] at H
    exact absurd H (by simp)
   rw [if_pos c16] at H
   have c16b0:=eq_true c16
   have c16b1:decide (((rd_T48 t437 x25_1).f1) ≤ ((rd_T48 t437 x25_1).f2)) = true:=decide_eq_true c16
   clear c16
   by_cases c17:((rd_T48 t437 x25_1).f2) ≤ (t431.length:Int)
   rotate_left
   ·rw [if_neg c17] at H
    exact absurd H (by simp)
   rw [if_pos c17] at H
   have c17b0:=eq_true c17
   have c17b1:decide (((rd_T48 t437 x25_1).f2) ≤ (t431.length:Int)) = true:=decide_eq_true c17
   (try simp only [hl440_0] at c17b1)
   clear c17
   obtain⟨y442,hy442⟩:∃ y_:List Int,y_ = ((t431.take (((rd_T48 t437 x25_1).f2):Int).toNat).drop (((rd_T48 t437 x25_1).f1):Int).toNat):=⟨_,rfl⟩
   replace H:(if 0 ≤ ((rd_T48 t437 x25_1).f3) then (if ((rd_T48 t437 x25_1).f3) ≤ ((rd_T48 t437 x25_1).f4) then (if ((rd_T48 t437 x25_1).f4) ≤ (t434.length:Int) then ((impl_CommonWithin.f k1 y442 ((t434.take (((rd_T48 t437 x25_1).f4):Int).toNat).drop (((rd_T48 t437 x25_1).f3):Int).toNat) a3).bind fun t452=>(impl_shareOf.l1 k1 a3 x11_1 t431 t434 t437 (t437.length:Int) x25_1 t452 (t452.length:Int) 0 ((rd_T48 t437 x25_1).f0) ((rd_T48 t437 x25_1).f1) ((rd_T48 t437 x25_1).f2) ((rd_T48 t437 x25_1).f3) ((rd_T48 t437 x25_1).f4))) else (none)) else (none)) else (none)) = some r:=by first|(rw [hy442];with_reducible exact H)|(have H2_:=(Option.bind_some _ _).symm.trans H;rw [hy442];with_reducible exact H2_)|(have H2_:=(Option.bind_some _ _).symm.trans H;with_reducible exact H2_)|with_reducible exact H|(rw [hy442];exact H)|exact H
   have Ny442:=mk0 hy442
   clear hy442
   by_cases c18:0 ≤ ((rd_T48 t437 x25_1).f3)
   rotate_left
   ·rw [if_neg c18] at H
    exact absurd H (by simp)
   rw [if_pos c18] at H
   have c18b0:=eq_true c18
   have c18b1:decide (0 ≤ ((rd_T48 t437 x25_1).f3)) = true:=decide_eq_true c18
   clear c18
   by_cases c19:((rd_T48 t437 x25_1).f3) ≤ ((rd_T48 t437 x25_1).f4)
   rotate_left
   ·rw [if_neg c19] at H
    exact absurd H (by simp)
   rw [if_pos c19] at H
   have c19b0:=eq_true c19
   have c19b1:decide (((rd_T48 t437 x25_1).f3) ≤ ((rd_T48 t437 x25_1).f4)) = true:=decide_eq_true c19
   clear c19
   by_cases c20:((rd_T48 t437 x25_1).f4) ≤ (t434.length:Int)
   rotate_left
   ·rw [if_neg c20] at H
    exact absurd H (by simp)
   rw [if_pos c20] at H
   have c20b0:=eq_true c20
   have c20b1:decide (((rd_T48 t437 x25_1).f4) ≤ (t434.length:Int)) = true:=decide_eq_true c20
   (try simp only [hl440_0] at c20b1)
   clear c20
   obtain⟨y447,hy447⟩:∃ y_:List Int,y_ = ((t434.take (((rd_T48 t437 x25_1).f4):Int).toNat).drop (((rd_T48 t437 x25_1).f3):Int).toNat):=⟨_,rfl⟩
   replace H:((impl_CommonWithin.f k1 y442 y447 a3).bind fun t452=>(impl_shareOf.l1 k1 a3 x11_1 t431 t434 t437 (t437.length:Int) x25_1 t452 (t452.length:Int) 0 ((rd_T48 t437 x25_1).f0) ((rd_T48 t437 x25_1).f1) ((rd_T48 t437 x25_1).f2) ((rd_T48 t437 x25_1).f3) ((rd_T48 t437 x25_1).f4))) = some r:=by first|(rw [hy447];with_reducible exact H)|(have H2_:=(Option.bind_some _ _).symm.trans H;rw [hy447];with_reducible exact H2_)|(have H2_:=(Option.bind_some _ _).symm.trans H;with_reducible exact H2_)|with_reducible exact H|(rw [hy447];exact H)|exact H
   have Ny447:=mk0 hy447
   clear hy447
   replace H:=Option.bind_eq_some_iff.mp H
   obtain⟨t452,A210,H⟩:=H
   replace H:(impl_shareOf.l1 k1 a3 x11_1 t431 t434 t437 (t437.length:Int) x25_1 t452 (t452.length:Int) 0 ((rd_T48 t437 x25_1).f0) ((rd_T48 t437 x25_1).f1) ((rd_T48 t437 x25_1).f2) ((rd_T48 t437 x25_1).f3) ((rd_T48 t437 x25_1).f4)) = some r:=H
   have A21:=mk0 A210
   clear A210
   have H':=mk0 H
   clear H
   have p440:0 ≤ (x25_1:Int):=of_decide_eq_true (by first|(with_reducible assumption)|assumption)
   have q440:x25_1 < (t437.length:Int):=of_decide_eq_true (by first|(with_reducible assumption)|assumption)
   obtain⟨ad440,A440_0,c440_0,e440,hx440_0,hx440_1,hx440_2,hx440_3,hx440_4,hl440_0,hi440_0⟩:=at_T48 (Kd.N_reads' HO_23.out).2.2 x25_1 p440 q440
   cases e440
   obtain⟨ce440,hce440,hMe440,hcc440⟩:=Kd.N_get HO_23.out z48 x25_1 p440 (by first|exact q440|exact of_decide_eq_true (by first|(with_reducible assumption)|assumption)|(have e_:=(Kd.N_reads' HO_23.out).1;omega))
   obtain⟨ua440_0,uc440_0,rfl,ul440_0,ge440_0⟩:=k48_openF hMe440
   have hv440_0:=hcc440 0 _ rfl
   rw [Nat.add_zero] at hv440_0
   replace hv440_0:=Option.some.inj (hv440_0.symm.trans hx440_0)
   injection hv440_0 with hva_ hvn_ hvc_
   rw [hva_] at ge440_0
   rw [hvc_] at ul440_0
   have HL440_0:=mk0 (show Kd.V (Kd.int .u8) 5 _ w.heap.size _ _ ((rd_T48 t437 x25_1).f0) from Kd.V_mk ul440_0 ge440_0)
   clear hva_ hvn_ hvc_ ge440_0 ul440_0
   clear hcc440 hce440
   have HR440_0:=mk0 hi440_0
   have HC440_0:=mk0 hl440_0
   clear hi440_0 hl440_0
   replace p440:=eq_true p440
   replace q440:=eq_true q440
   try go_wp2_with (first|((with_reducible refine gate_dst (N:=13) rfl ?_);refine box_event ?hg (N:=13) ?hd (cs:=#[.slice none 0 0,.int .i64 0,.int .i64 0,.int .i64 0,.int .i64 0]) (t:=48) ?hr ?_;(case hd=>rfl);(case hg=>rfl);(case hr=>first|(go_simp;done)|(go_simp;rfl));intro gb441 hg w22 hbox hb;replace HO_11:=mk0 (bR HO_11.out hb);replace HO_17:=mk0 (bR HO_17.out hb);replace HO_19:=mk0 (bR HO_19.out hb);replace HO_23:=mk0 (Kd.N_below (Kd.N_elderB (rN HO_23.out) gb441 (Nat.le_of_eq hg.symm)) hb);replace HR440_0:=mk0 (Kd.C_below (by repeat (first|(with_reducible exact HR440_0.out)|(with_reducible first|apply aC|apply nC|apply dC)|exact HR440_0.out|exact (Kd.V_reads' HL440_0.out).2.2)) hb);replace HL440_0:=mk0 (Kd.V_below (Kd.V_elderB (rV HL440_0.out) gb441 (Nat.le_of_eq hg.symm)) hb);have BK441:=mk0 (hbox);have GW441:=mk0 ((by rw [hg];exact (kZ HB.out):w.heap.size ≤ gb441));have GE441:=mk0 ((by rw [hg];exact (kZ HB.out):w.heap.size ≤ gb441));replace HB:=mk0 (kS HB.out hb);clear hb hbox hg;obtain⟨hcz23_0,hcz23_1,hcz23_2,hcz23_3,hcz23_4,hfz23_0,hfz23_1,hfz23_2,hfz23_3,hfz23_4⟩:=cz5 BK441.out))
   have n0_:Aside0 (Kd.R k56 56 (((((w22.setCell ⟨gb441,0,none⟩ (.slice A440_0 ((rd_T48 t437 x25_1).f0).length c440_0)).setCell ⟨gb441,1,none⟩ (.int .i64 ((rd_T48 t437 x25_1).f1))).setCell ⟨gb441,2,none⟩ (.int .i64 ((rd_T48 t437 x25_1).f2))).setCell ⟨gb441,3,none⟩ (.int .i64 ((rd_T48 t437 x25_1).f3))).setCell ⟨gb441,4,none⟩ (.int .i64 ((rd_T48 t437 x25_1).f4))) w.heap.size (fun _=>True) u11 x11_1):=⟨by (with_reducible repeat (first|apply aR|apply nR|apply dR));exact Kd.R_mono (Kd.R_far (p:=⟨gb441,4,none⟩) (Kd.R_far (p:=⟨gb441,3,none⟩) (Kd.R_far (p:=⟨gb441,2,none⟩) (Kd.R_far (p:=⟨gb441,1,none⟩) (Kd.R_far (p:=⟨gb441,0,none⟩) (Kd.R_types HO_11.out BK441.out (by decide)) (fun _ hk=>hk.2) (.slice A440_0 ((rd_T48 t437 x25_1).f0).length c440_0)) (fun _ hk=>hk.2) (.int .i64 ((rd_T48 t437 x25_1).f1))) (fun _ hk=>hk.2) (.int .i64 ((rd_T48 t437 x25_1).f2))) (fun _ hk=>hk.2) (.int .i64 ((rd_T48 t437 x25_1).f3))) (fun _ hk=>hk.2) (.int .i64 ((rd_T48 t437 x25_1).f4))) (fun _ hk=>trivial)⟩
   have n1_:Aside0 (Kd.R (Kd.int .i64) 3 (((((w22.setCell ⟨gb441,0,none⟩ (.slice A440_0 ((rd_T48 t437 x25_1).f0).length c440_0)).setCell ⟨gb441,1,none⟩ (.int .i64 ((rd_T48 t437 x25_1).f1))).setCell ⟨gb441,2,none⟩ (.int .i64 ((rd_T48 t437 x25_1).f2))).setCell ⟨gb441,3,none⟩ (.int .i64 ((rd_T48 t437 x25_1).f3))).setCell ⟨gb441,4,none⟩ (.int .i64 ((rd_T48 t437 x25_1).f4))) w.heap.size (fun k_=>some k_ ≠ (v435:Value).ownBlock) v432 t431):=⟨by (with_reducible repeat (first|apply aR|apply nR|apply dR));exact Kd.R_mono (Kd.R_far (p:=⟨gb441,4,none⟩) (Kd.R_far (p:=⟨gb441,3,none⟩) (Kd.R_far (p:=⟨gb441,2,none⟩) (Kd.R_far (p:=⟨gb441,1,none⟩) (Kd.R_far (p:=⟨gb441,0,none⟩) (Kd.R_types HO_17.out BK441.out (by decide)) (fun _ hk=>hk.2) (.slice A440_0 ((rd_T48 t437 x25_1).f0).length c440_0)) (fun _ hk=>hk.2) (.int .i64 ((rd_T48 t437 x25_1).f1))) (fun _ hk=>hk.2) (.int .i64 ((rd_T48 t437 x25_1).f2))) (fun _ hk=>hk.2) (.int .i64 ((rd_T48 t437 x25_1).f3))) (fun _ hk=>hk.2) (.int .i64 ((rd_T48 t437 x25_1).f4))) (fun _ hk=>hk.1)⟩
   have n2_:Aside0 (Kd.R (Kd.int .i64) 3 (((((w22.setCell ⟨gb441,0,none⟩ (.slice A440_0 ((rd_T48 t437 x25_1).f0).length c440_0)).setCell ⟨gb441,1,none⟩ (.int .i64 ((rd_T48 t437 x25_1).f1))).setCell ⟨gb441,2,none⟩ (.int .i64 ((rd_T48 t437 x25_1).f2))).setCell ⟨gb441,3,none⟩ (.int .i64 ((rd_T48 t437 x25_1).f3))).setCell ⟨gb441,4,none⟩ (.int .i64 ((rd_T48 t437 x25_1).f4))) w.heap.size (fun k_=>some k_ ≠ (v432:Value).ownBlock) v435 t434):=⟨by (with_reducible repeat (first|apply aR|apply nR|apply dR));exact Kd.R_mono (Kd.R_far (p:=⟨gb441,4,none⟩) (Kd.R_far (p:=⟨gb441,3,none⟩) (Kd.R_far (p:=⟨gb441,2,none⟩) (Kd.R_far (p:=⟨gb441,1,none⟩) (Kd.R_far (p:=⟨gb441,0,none⟩) (Kd.R_types HO_19.out BK441.out (by decide)) (fun _ hk=>hk.2) (.slice A440_0 ((rd_T48 t437 x25_1).f0).length c440_0)) (fun _ hk=>hk.2) (.int .i64 ((rd_T48 t437 x25_1).f1))) (fun _ hk=>hk.2) (.int .i64 ((rd_T48 t437 x25_1).f2))) (fun _ hk=>hk.2) (.int .i64 ((rd_T48 t437 x25_1).f3))) (fun _ hk=>hk.2) (.int .i64 ((rd_T48 t437 x25_1).f4))) (fun _ hk=>hk.1)⟩
   have n3_:Aside0 (Kd.N k48 48 (((((w22.setCell ⟨gb441,0,none⟩ (.slice A440_0 ((rd_T48 t437 x25_1).f0).length c440_0)).setCell ⟨gb441,1,none⟩ (.int .i64 ((rd_T48 t437 x25_1).f1))).setCell ⟨gb441,2,none⟩ (.int .i64 ((rd_T48 t437 x25_1).f2))).setCell ⟨gb441,3,none⟩ (.int .i64 ((rd_T48 t437 x25_1).f3))).setCell ⟨gb441,4,none⟩ (.int .i64 ((rd_T48 t437 x25_1).f4))) w.heap.size (fun k_=>some k_ ≠ (u11:Value).ownBlock ∧ some k_ ≠ (v432:Value).ownBlock ∧ some k_ ≠ (v435:Value).ownBlock ∧ k_ ≠ gb441) (.slice (some ad440) t437.length co11) t437):=⟨by (with_reducible repeat (first|apply aN|apply nN|apply dN));exact Kd.N_mono (Kd.N_far (p:=⟨gb441,4,none⟩) (Kd.N_far (p:=⟨gb441,3,none⟩) (Kd.N_far (p:=⟨gb441,2,none⟩) (Kd.N_far (p:=⟨gb441,1,none⟩) (Kd.N_far (p:=⟨gb441,0,none⟩) (Kd.N_mono HO_23.out (fun k_ hk=>(⟨hk,hk.2⟩:_ ∧ k_ ≠ gb441))) (fun _ hk=>hk.2) (.slice A440_0 ((rd_T48 t437 x25_1).f0).length c440_0)) (fun _ hk=>hk.2) (.int .i64 ((rd_T48 t437 x25_1).f1))) (fun _ hk=>hk.2) (.int .i64 ((rd_T48 t437 x25_1).f2))) (fun _ hk=>hk.2) (.int .i64 ((rd_T48 t437 x25_1).f3))) (fun _ hk=>hk.2) (.int .i64 ((rd_T48 t437 x25_1).f4))) (fun _ hk=>⟨hk.1.1.1,⟨hk.1.1.2.1,⟨hk.1.1.2.2,hk.1.2⟩⟩⟩)⟩
   have n4_:Aside0 (Kd.V (Kd.int .u8) 5 (((((w22.setCell ⟨gb441,0,none⟩ (.slice A440_0 ((rd_T48 t437 x25_1).f0).length c440_0)).setCell ⟨gb441,1,none⟩ (.int .i64 ((rd_T48 t437 x25_1).f1))).setCell ⟨gb441,2,none⟩ (.int .i64 ((rd_T48 t437 x25_1).f2))).setCell ⟨gb441,3,none⟩ (.int .i64 ((rd_T48 t437 x25_1).f3))).setCell ⟨gb441,4,none⟩ (.int .i64 ((rd_T48 t437 x25_1).f4))) w.heap.size (fun k_=>some k_ ≠ (u11:Value).ownBlock ∧ some k_ ≠ (v432:Value).ownBlock ∧ some k_ ≠ (v435:Value).ownBlock ∧ some k_ ≠ (.slice (some ad440) t437.length co11:Value).ownBlock ∧ k_ ≠ gb441) (.slice A440_0 ((rd_T48 t437 x25_1).f0).length c440_0) ((rd_T48 t437 x25_1).f0)):=⟨by (with_reducible repeat (first|apply aV|apply nV|apply dV));exact Kd.V_mono (Kd.V_far (p:=⟨gb441,4,none⟩) (Kd.V_far (p:=⟨gb441,3,none⟩) (Kd.V_far (p:=⟨gb441,2,none⟩) (Kd.V_far (p:=⟨gb441,1,none⟩) (Kd.V_far (p:=⟨gb441,0,none⟩) (Kd.V_mono HL440_0.out (fun k_ hk=>(⟨hk,hk.2⟩:_ ∧ k_ ≠ gb441))) (fun _ hk=>hk.2) (.slice A440_0 ((rd_T48 t437 x25_1).f0).length c440_0)) (fun _ hk=>hk.2) (.int .i64 ((rd_T48 t437 x25_1).f1))) (fun _ hk=>hk.2) (.int .i64 ((rd_T48 t437 x25_1).f2))) (fun _ hk=>hk.2) (.int .i64 ((rd_T48 t437 x25_1).f3))) (fun _ hk=>hk.2) (.int .i64 ((rd_T48 t437 x25_1).f4))) (fun _ hk=>⟨hk.1.1.1.1,⟨hk.1.1.1.2.1,⟨hk.1.1.1.2.2,⟨hk.1.1.2,hk.1.2⟩⟩⟩⟩)⟩
   have n5_:Aside0 ((((((w22.setCell ⟨gb441,0,none⟩ (.slice A440_0 ((rd_T48 t437 x25_1).f0).length c440_0)).setCell ⟨gb441,1,none⟩ (.int .i64 ((rd_T48 t437 x25_1).f1))).setCell ⟨gb441,2,none⟩ (.int .i64 ((rd_T48 t437 x25_1).f2))).setCell ⟨gb441,3,none⟩ (.int .i64 ((rd_T48 t437 x25_1).f3))).setCell ⟨gb441,4,none⟩ (.int .i64 ((rd_T48 t437 x25_1).f4))).heap[gb441]? = some (.cells #[.slice A440_0 ((rd_T48 t437 x25_1).f0).length c440_0,.int .i64 ((rd_T48 t437 x25_1).f1),.int .i64 ((rd_T48 t437 x25_1).f2),.int .i64 ((rd_T48 t437 x25_1).f3),.int .i64 ((rd_T48 t437 x25_1).f4)] 48 (0,0))):=⟨by (with_reducible repeat (first|apply nB|apply dB|apply aB));refine blk_put (cs:=#[.slice A440_0 ((rd_T48 t437 x25_1).f0).length c440_0,.int .i64 ((rd_T48 t437 x25_1).f1),.int .i64 ((rd_T48 t437 x25_1).f2),.int .i64 ((rd_T48 t437 x25_1).f3),.int .i64 0]) ?_ 4 _ rfl;(with_reducible repeat (first|apply nB|apply dB|apply aB));refine blk_put (cs:=#[.slice A440_0 ((rd_T48 t437 x25_1).f0).length c440_0,.int .i64 ((rd_T48 t437 x25_1).f1),.int .i64 ((rd_T48 t437 x25_1).f2),.int .i64 0,.int .i64 0]) ?_ 3 _ rfl;(with_reducible repeat (first|apply nB|apply dB|apply aB));refine blk_put (cs:=#[.slice A440_0 ((rd_T48 t437 x25_1).f0).length c440_0,.int .i64 ((rd_T48 t437 x25_1).f1),.int .i64 0,.int .i64 0,.int .i64 0]) ?_ 2 _ rfl;(with_reducible repeat (first|apply nB|apply dB|apply aB));refine blk_put (cs:=#[.slice A440_0 ((rd_T48 t437 x25_1).f0).length c440_0,.int .i64 0,.int .i64 0,.int .i64 0,.int .i64 0]) ?_ 1 _ rfl;(with_reducible repeat (first|apply nB|apply dB|apply aB));refine blk_put (cs:=#[.slice none 0 0,.int .i64 0,.int .i64 0,.int .i64 0,.int .i64 0]) ?_ 0 _ rfl;(with_reducible repeat (first|apply nB|apply dB|apply aB));exact BK441.out⟩
   have n6_:Aside0 (Below w.heap.size w (((((w22.setCell ⟨gb441,0,none⟩ (.slice A440_0 ((rd_T48 t437 x25_1).f0).length c440_0)).setCell ⟨gb441,1,none⟩ (.int .i64 ((rd_T48 t437 x25_1).f1))).setCell ⟨gb441,2,none⟩ (.int .i64 ((rd_T48 t437 x25_1).f2))).setCell ⟨gb441,3,none⟩ (.int .i64 ((rd_T48 t437 x25_1).f3))).setCell ⟨gb441,4,none⟩ (.int .i64 ((rd_T48 t437 x25_1).f4)))):=⟨kB HB.out⟩
   (try clear HO_11)
   (try clear HO_17)
   (try clear HO_19)
   (try clear HO_23)
   (try clear HL440_0)
   (try clear BK441)
   (try clear HB)
   generalize (((((w22.setCell ⟨gb441,0,none⟩ (.slice A440_0 ((rd_T48 t437 x25_1).f0).length c440_0)).setCell ⟨gb441,1,none⟩ (.int .i64 ((rd_T48 t437 x25_1).f1))).setCell ⟨gb441,2,none⟩ (.int .i64 ((rd_T48 t437 x25_1).f2))).setCell ⟨gb441,3,none⟩ (.int .i64 ((rd_T48 t437 x25_1).f3))).setCell ⟨gb441,4,none⟩ (.int .i64 ((rd_T48 t437 x25_1).f4))) = w24 at n0_ n1_ n2_ n3_ n4_ n5_ n6_ ⊢
   have HO_11:=n0_
   have HO_17:=n1_
   have HO_19:=n2_
   have HO_23:=n3_
   have HL440_0:=n4_
   have BK441:=n5_
   have HB:=n6_
   clear n0_ n1_ n2_ n3_ n4_ n5_ n6_
   replace HO_11:=mk0 (dR HO_11.out)
   replace HO_17:=mk0 (dR HO_17.out)
   replace HO_19:=mk0 (dR HO_19.out)
   replace HO_23:=mk0 (dN HO_23.out)
   replace HL440_0:=mk0 (dV HL440_0.out)
   replace BK441:=mk0 (dB BK441.out)
   replace HB:=mk0 (dZ HB.out)
   obtain⟨Ao27,co27,eo27⟩:=Kd.R_slice HO_17.out
   (first|subst eo27|(injection eo27 with f1_ f2_ f3_;have f4_:=f1_.symm;have f5_:=f3_.symm;clear f1_ f2_ f3_;subst f4_;subst f5_))
   have q26:(((rd_T48 t437 x25_1).f2):Int) ≤ ((t431.length:Int):Int):=of_decide_eq_true (by first|(with_reducible assumption)|assumption)
   obtain⟨i026,hi026,_,hsz26,_⟩:=info_parts info3
   have hroom26:t431.length ≤ co27:=(Kd.R_reads' HO_17.out).2.1
   have hC26:Kd.F (Kd.int .i64) _ _ Ao27 t431.length t431:=(Kd.V_at (base:=w.heap.size) (Kd.R_V (Kd.R_types (Kd.R_apart' (Kd.R_apart' (HO_17.out) (Kd.R_typed HO_11.out) (by decide)) (Kd.N_typed HO_23.out) (by decide)) BK441.out (by decide)))).2.2
   have ql26:(((rd_T48 t437 x25_1).f1):Int) ≤ (((rd_T48 t437 x25_1).f2):Int):=of_decide_eq_true (by first|(with_reducible assumption)|assumption)
   have q026:(0:Int) ≤ (((rd_T48 t437 x25_1).f1):Int):=of_decide_eq_true (by first|(with_reducible assumption)|assumption)
   have hcut26:=cut_mid (P:=Try.prog) 45 3 .i64 .i64 Try.underlying45 hi026 1 hsz26 Ao27 t431.length co27 ((rd_T48 t437 x25_1).f1) ((rd_T48 t437 x25_1).f2) q026 ql26 q26 hroom26
   have hr26:=Kd.F_mid (lo:=(((rd_T48 t437 x25_1).f1):Int).toNat) (hi:=(((rd_T48 t437 x25_1).f2):Int).toNat) (c:=co27) hC26 (by omega) (by omega) hroom26
   obtain⟨A26,hA26⟩:∃ A1,A1 = (if co27 = (((rd_T48 t437 x25_1).f1):Int).toNat then Ao27 else (Ao27:Option Addr).map (·.add ((((rd_T48 t437 x25_1).f1):Int).toNat * 1))):=⟨_,rfl⟩
   obtain⟨c26,hc26⟩:∃ c1,c1 = co27 - (((rd_T48 t437 x25_1).f1):Int).toNat:=⟨_,rfl⟩
   have hy26:y442.length = (((rd_T48 t437 x25_1).f2):Int).toNat - (((rd_T48 t437 x25_1).f1):Int).toNat:=(by rw [Ny442.out,List.length_drop,List.length_take] <;> omega)
   rw [show ((t431).take (((rd_T48 t437 x25_1).f2):Int).toNat).drop (((rd_T48 t437 x25_1).f1):Int).toNat = y442 from Ny442.out.symm] at hr26
   replace hr26:Kd.F (Kd.int .i64) _ _ A26 y442.length y442:=(by rw [hA26];exact hr26)
   rw [← hy26, ← hA26, ← hc26] at hcut26
   have HO446:=mk0 (show Kd.V (Kd.int .i64) 3 _ w.heap.size _ (.slice A26 y442.length c26) y442 from Kd.V_mk (by rw [hy26,hc26];exact Nat.sub_le_sub_right (Nat.le_trans (by omega) hroom26) _) hr26)
   have HC446:=mk0 (show y442.length ≤ c26 from by rw [hy26,hc26];exact Nat.sub_le_sub_right (Nat.le_trans (by omega) hroom26) _)
   clear hr26 hC26 hroom26 hi026 hsz26 hc26
   have KY26:=mk0 hy26
   have KA26:=mk0 hA26
   clear hy26 hA26
   replace q26:=eq_true q26
   obtain⟨Ao29,co29,eo29⟩:=Kd.R_slice HO_19.out
   (first|subst eo29|(injection eo29 with f1_ f2_ f3_;have f4_:=f1_.symm;have f5_:=f3_.symm;clear f1_ f2_ f3_;subst f4_;subst f5_))
   have q28:(((rd_T48 t437 x25_1).f4):Int) ≤ ((t434.length:Int):Int):=of_decide_eq_true (by first|(with_reducible assumption)|assumption)
   obtain⟨i028,hi028,_,hsz28,_⟩:=info_parts info3
   have hroom28:t434.length ≤ co29:=(Kd.R_reads' HO_19.out).2.1
   have hC28:Kd.F (Kd.int .i64) _ _ Ao29 t434.length t434:=(Kd.V_at (base:=w.heap.size) (Kd.R_V (Kd.R_types (Kd.R_apart' (Kd.R_apart' (HO_19.out) (Kd.R_typed HO_11.out) (by decide)) (Kd.N_typed HO_23.out) (by decide)) BK441.out (by decide)))).2.2
   have ql28:(((rd_T48 t437 x25_1).f3):Int) ≤ (((rd_T48 t437 x25_1).f4):Int):=of_decide_eq_true (by first|(with_reducible assumption)|assumption)
   have q028:(0:Int) ≤ (((rd_T48 t437 x25_1).f3):Int):=of_decide_eq_true (by first|(with_reducible assumption)|assumption)
   have hcut28:=cut_mid (P:=Try.prog) 45 3 .i64 .i64 Try.underlying45 hi028 1 hsz28 Ao29 t434.length co29 ((rd_T48 t437 x25_1).f3) ((rd_T48 t437 x25_1).f4) q028 ql28 q28 hroom28
   have hr28:=Kd.F_mid (lo:=(((rd_T48 t437 x25_1).f3):Int).toNat) (hi:=(((rd_T48 t437 x25_1).f4):Int).toNat) (c:=co29) hC28 (by omega) (by omega) hroom28
   obtain⟨A28,hA28⟩:∃ A1,A1 = (if co29 = (((rd_T48 t437 x25_1).f3):Int).toNat then Ao29 else (Ao29:Option Addr).map (·.add ((((rd_T48 t437 x25_1).f3):Int).toNat * 1))):=⟨_,rfl⟩
   obtain⟨c28,hc28⟩:∃ c1,c1 = co29 - (((rd_T48 t437 x25_1).f3):Int).toNat:=⟨_,rfl⟩
   have hy28:y447.length = (((rd_T48 t437 x25_1).f4):Int).toNat - (((rd_T48 t437 x25_1).f3):Int).toNat:=(by rw [Ny447.out,List.length_drop,List.length_take] <;> omega)
   rw [show ((t434).take (((rd_T48 t437 x25_1).f4):Int).toNat).drop (((rd_T48 t437 x25_1).f3):Int).toNat = y447 from Ny447.out.symm] at hr28
   replace hr28:Kd.F (Kd.int .i64) _ _ A28 y447.length y447:=(by rw [hA28];exact hr28)
   rw [← hy28, ← hA28, ← hc28] at hcut28
   have HO451:=mk0 (show Kd.V (Kd.int .i64) 3 _ w.heap.size _ (.slice A28 y447.length c28) y447 from Kd.V_mk (by rw [hy28,hc28];exact Nat.sub_le_sub_right (Nat.le_trans (by omega) hroom28) _) hr28)
   have HC451:=mk0 (show y447.length ≤ c28 from by rw [hy28,hc28];exact Nat.sub_le_sub_right (Nat.le_trans (by omega) hroom28) _)
   clear hr28 hC28 hroom28 hi028 hsz28 hc28
   have KY28:=mk0 hy28
   have KA28:=mk0 hA28
   clear hy28 hA28
   replace q28:=eq_true q28
   refine start_ (n:=16) (S:=fun w'=>w'.cell? ⟨gb441,0,none⟩ = some (.slice A440_0 ((rd_T48 t437 x25_1).f0).length c440_0) ∧ w'.cell? ⟨gb441,1,none⟩ = some (.int .i64 ((rd_T48 t437 x25_1).f1)) ∧ w'.cell? ⟨gb441,2,none⟩ = some (.int .i64 ((rd_T48 t437 x25_1).f2)) ∧ w'.cell? ⟨gb441,3,none⟩ = some (.int .i64 ((rd_T48 t437 x25_1).f3)) ∧ w'.cell? ⟨gb441,4,none⟩ = some (.int .i64 ((rd_T48 t437 x25_1).f4))) (ds:=[]) impl_shareOf.m0 (by kernel_rfl) rfl rfl (ck5 BK441.out) (fun hHeld=>?_);refine with_tabW impl_shareOf.tab6 impl_shareOf.bits6 (fun HT_ HW_=>?_)
   generalize w24.drew = w25 at HO_11 HO_17 HO_19 HO_23 HL440_0 BK441 HB HO446 HO451 hHeld ⊢
   refine pure_ (i:=0) (N:=some 29) (v:=?_) (a':=?_) impl_shareOf.m1 rfl rfl (any_of HT_.out (by kernel_rfl)) (fun _ _ _ h=>h) (Or.inl ⟨by rfl,?_⟩) ?_ ?_
   rotate_left
   ·intro w'
    go_simp
    with_reducible rfl
   rotate_left
   ·simp only [Act.put,sA,sO,sS,i64_w,i32_w]
    rfl
   refine pure_ (i:=1) (N:=some 30) (v:=?_) (a':=?_) impl_shareOf.m2 rfl rfl (any_of HT_.out (by kernel_rfl)) (fun _ _ _ h=>h) (Or.inl ⟨by rfl,?_⟩) ?_ ?_
   rotate_left
   ·intro w'
    go_simp
    with_reducible rfl
   rotate_left
   ·simp only [Act.put,sA,sO,sS,i64_w,i32_w]
    rfl
   refine pure_ (i:=3) (N:=some 32) (v:=?_) (a':=?_) impl_shareOf.m3 rfl rfl (any_of HT_.out (by kernel_rfl)) (fun _ _ _ h=>h) (Or.inl ⟨by rfl,?_⟩) ?_ ?_
   rotate_left
   ·intro w'
    go_simp
    with_reducible rfl
   rotate_left
   ·simp only [Act.put,sA,sO,sS,i64_w,i32_w]
    rfl
   refine pure_ (i:=6) (N:=some 35) (v:=?_) (a':=?_) impl_shareOf.m4 rfl rfl (any_of HT_.out (by kernel_rfl)) (fun _ _ _ h=>h) (Or.inl ⟨by rfl,?_⟩) ?_ ?_
   rotate_left
   ·intro w'
    go_simp
    with_reducible rfl
   rotate_left
   ·simp only [Act.put,sA,sO,sS,i64_w,i32_w]
    rfl
   refine pure_ (i:=7) (N:=some 36) (v:=?_) (a':=?_) impl_shareOf.m5 rfl rfl (any_of HT_.out (by kernel_rfl)) (fun _ _ _ h=>h) (Or.inl ⟨by rfl,?_⟩) ?_ ?_
   rotate_left
   ·intro w'
    go_simp
    with_reducible rfl
   rotate_left
   ·simp only [Act.put,sA,sO,sS,i64_w,i32_w]
    rfl
   refine pure_ (i:=9) (N:=some 38) (v:=?_) (a':=?_) impl_shareOf.m6 rfl rfl (any_of HT_.out (by kernel_rfl)) (fun _ _ _ h=>h) (Or.inl ⟨by rfl,?_⟩) ?_ ?_
   rotate_left
   ·intro w'
    go_simp
    with_reducible rfl
   rotate_left
   ·simp only [Act.put,sA,sO,sS,i64_w,i32_w]
    rfl
   refine pure_ (i:=12) (N:=some 41) (v:=?_) (a':=?_) impl_shareOf.m7 rfl rfl (any_of HT_.out (by kernel_rfl)) (fun _ _ _ h=>h) (Or.inl ⟨by rfl,?_⟩) ?_ ?_
   rotate_left
   ·intro w'
    go_simp
    with_reducible rfl
   rotate_left
   ·simp only [Act.put,sA,sO,sS,i64_w,i32_w]
    rfl
   refine pure_ (i:=15) (N:=some 44) (v:=?_) (a':=?_) impl_shareOf.m8 rfl rfl (any_of HT_.out (by kernel_rfl)) (fun _ _ _ h=>h) (Or.inl ⟨by rfl,?_⟩) ?_ ?_
   rotate_left
   ·intro w'
    go_simp
    with_reducible rfl
   rotate_left
   ·simp only [Act.put,sA,sO,sS,i64_w,i32_w]
    rfl
   refine take_ (i:=2) (N:=some 31) (v:=?_) (a':=?_) impl_shareOf.m9 rfl rfl (take_ofW HT_.out HW_.out (by kernel_rfl)) (fun _ _ _ h=>h) (Or.inl ⟨by rfl,?_⟩) hHeld ?_ ?_
   rotate_left
   ·rintro w' ⟨s0,s1,s2,s3,s4⟩
    go_simp
    with_reducible rfl
   rotate_left
   ·simp only [Act.put,sA,sO,sS,i64_w,i32_w]
    rfl
   refine take_ (i:=4) (N:=some 33) (v:=?_) (a':=?_) impl_shareOf.m10 rfl rfl (take_ofW HT_.out HW_.out (by kernel_rfl)) (fun _ _ _ h=>h) (Or.inl ⟨by rfl,?_⟩) hHeld ?_ ?_
   rotate_left
   ·rintro w' ⟨s0,s1,s2,s3,s4⟩
    go_simp
    with_reducible rfl
   rotate_left
   ·simp only [Act.put,sA,sO,sS,i64_w,i32_w]
    rfl
   refine pure_ (i:=5) (N:=some 34) (v:=?_) (a':=?_) impl_shareOf.m11 rfl rfl (any_of HT_.out (by kernel_rfl)) (fun _ _ _ h=>h) (Or.inl ⟨by rfl,?_⟩) ?_ ?_
   rotate_left
   ·intro w'
    go_simp
    with_reducible rfl
   rotate_left
   ·simp only [Act.put,sA,sO,sS,i64_w,i32_w]
    rfl
   refine take_ (i:=8) (N:=some 37) (v:=?_) (a':=?_) impl_shareOf.m12 rfl rfl (take_ofW HT_.out HW_.out (by kernel_rfl)) (fun _ _ _ h=>h) (Or.inl ⟨by rfl,?_⟩) hHeld ?_ ?_
   rotate_left
   ·rintro w' ⟨s0,s1,s2,s3,s4⟩
    go_simp
    with_reducible rfl
   rotate_left
   ·simp only [Act.put,sA,sO,sS,i64_w,i32_w]
    rfl
   refine take_ (i:=10) (N:=some 39) (v:=?_) (a':=?_) impl_shareOf.m13 rfl rfl (take_ofW HT_.out HW_.out (by kernel_rfl)) (fun _ _ _ h=>h) (Or.inl ⟨by rfl,?_⟩) hHeld ?_ ?_
   rotate_left
   ·rintro w' ⟨s0,s1,s2,s3,s4⟩
    go_simp
    with_reducible rfl
   rotate_left
   ·simp only [Act.put,sA,sO,sS,i64_w,i32_w]
    rfl
   refine pure_ (i:=11) (N:=some 40) (v:=?_) (a':=?_) impl_shareOf.m14 rfl rfl (any_of HT_.out (by kernel_rfl)) (fun _ _ _ h=>h) (Or.inl ⟨by rfl,?_⟩) ?_ ?_
   rotate_left
   ·intro w'
    go_simp
    with_reducible rfl
   rotate_left
   ·simp only [Act.put,sA,sO,sS,i64_w,i32_w]
    rfl
   refine one_ (i:=13) (N:=some 42) impl_shareOf.m15 rfl rfl (one_of HT_.out (by kernel_rfl)) (by decide) (fun K hK=>?_)
   refine goes_ Try.func65 (by kernel_rfl) rfl #[.slice A26 y442.length c26,.slice A28 y447.length c28,.int .i64 a3] (by rfl) rfl rfl (by (try simp only [mA,mC,mN]);first|done|rfl|(simp only [List.length_drop,List.length_take];done)|(simp only [List.length_drop,List.length_take];rfl)) ?_
   with_reducible refine (impl_CommonWithin.calls k1 _ _ y442 _ _ y447 a3 t452 _ ?side1 ?side2 ?side3 ?side4 A21.out).mono ?_
   (case side1=>exact kC (Kd.V_reads' HO446.out).2.2)
   (case side2=>exact (Kd.V_reads' HO446.out).2.1)
   (case side3=>exact kC (Kd.V_reads' HO451.out).2.2)
   (case side4=>exact (Kd.V_reads' HO451.out).2.1)
   rintro e w30 ⟨v453,rfl,ho0,hb⟩
   refine⟨_,rfl,?_⟩
   replace HO_17:=mk0 (bR HO_17.out hb)
   replace HO_19:=mk0 (bR HO_19.out hb)
   replace HO_23:=mk0 (Kd.N_elder' (rN HO_23.out) (Kd.R_base ho0) hb)
   replace HL440_0:=mk0 (Kd.V_elder' (rV HL440_0.out) (Kd.R_base ho0) hb)
   replace HO446:=mk0 (Kd.V_elder' (rV HO446.out) (Kd.R_base ho0) hb)
   replace HO451:=mk0 (Kd.V_elder' (rV HO451.out) (Kd.R_base ho0) hb)
   have HO454:=mk0 (Kd.R_lower (Kd.R_new' ho0 (Kd.R_lt (rR HO_11.out))) (kZ HB.out))
   replace HO_11:=mk0 (Kd.R_elder' (rR HO_11.out) (Kd.R_base ho0) hb)
   replace BK441:=mk0 (kK BK441.out hb)
   replace HB:=mk0 (kS HB.out hb)
   (try clear hb)
   (try clear ho0)
   obtain⟨Ao31,co31,eo31⟩:=Kd.R_slice HO454.out
   (first|subst eo31|(injection eo31 with f1_ f2_ f3_;have f4_:=f1_.symm;have f5_:=f3_.symm;clear f1_ f2_ f3_;subst f4_;subst f5_))
   refine hK.out _ _ (ck5 BK441.out) (fun hHeld=>?_)
   clear hK K
   refine norm_ (a':=?_) ?_ ?_
   rotate_left
   ·show Act.put _ (some 42) _ = _
    simp only [Act.put,sA,sO,sS,i64_w,i32_w]
    rfl
   refine pure_ (i:=14) (N:=some 43) (v:=?_) (a':=?_) impl_shareOf.m16 rfl rfl (any_of HT_.out (by kernel_rfl)) (fun _ _ _ h=>h) (Or.inl ⟨by rfl,?_⟩) ?_ ?_
   rotate_left
   ·intro w'
    go_simp
    with_reducible rfl
   rotate_left
   ·simp only [Act.put,sA,sO,sS,i64_w,i32_w]
    rfl
   refine done_ (done_of HT_.out (by kernel_rfl)) ?_
   try go_wp2
   go_loopg [11,44] k1 (fun kq v11 v44 w'=>∃ (x11_2:List (S56)) (x44_2:Int),v44 = .int .i64 x44_2 ∧ Aside0 (impl_shareOf.l1 kq a3 x11_2 t431 t434 t437 (t437.length:Int) x25_1 t452 (t452.length:Int) x44_2 ((rd_T48 t437 x25_1).f0) ((rd_T48 t437 x25_1).f1) ((rd_T48 t437 x25_1).f2) ((rd_T48 t437 x25_1).f3) ((rd_T48 t437 x25_1).f4) = some r) ∧ Aside0 (kq ≤ k1) ∧ Aside0 (Kd.R k56 56 w' w.heap.size (fun k_=>some k_ ≠ ((.slice Ao31 t452.length co31):Value).ownBlock) v11 x11_2) ∧ Aside0 (Kd.R (Kd.int .i64) 3 w' w.heap.size (fun k_=>some k_ ≠ ((.slice Ao29 t434.length co29):Value).ownBlock) (.slice Ao27 t431.length co27) t431) ∧ Aside0 (Kd.R (Kd.int .i64) 3 w' w.heap.size (fun k_=>some k_ ≠ ((.slice Ao27 t431.length co27):Value).ownBlock) (.slice Ao29 t434.length co29) t434) ∧ Aside0 (Kd.N k48 48 w' w.heap.size (fun k_=>some k_ ≠ (v11:Value).ownBlock ∧ some k_ ≠ ((.slice Ao27 t431.length co27):Value).ownBlock ∧ some k_ ≠ ((.slice Ao29 t434.length co29):Value).ownBlock ∧ some k_ ≠ ((.slice Ao31 t452.length co31):Value).ownBlock ∧ k_ ≠ gb441) (.slice (some ad440) t437.length co11) t437) ∧ Aside0 (Kd.R k56 56 w' w.heap.size (fun k_=>some k_ ≠ (v11:Value).ownBlock) (.slice Ao31 t452.length co31) t452) ∧ Aside0 (w'.heap[gb441]? = some (.cells #[(.slice A440_0 ((rd_T48 t437 x25_1).f0).length c440_0),.int .i64 ((rd_T48 t437 x25_1).f1),.int .i64 ((rd_T48 t437 x25_1).f2),.int .i64 ((rd_T48 t437 x25_1).f3),.int .i64 ((rd_T48 t437 x25_1).f4)] 48 (0,0))) ∧ Aside0 (Below w.heap.size w w'))
   case atStart=>exact⟨(x11_1),(0),(by first|rfl|(simp;done)|(simp [*];done)),H',⟨Nat.le_refl _⟩,⟨rR (Kd.R_mono HO_11.out (fun _ hk=>hk.2))⟩,⟨rR HO_17.out⟩,⟨rR HO_19.out⟩,⟨rN (Kd.N_mono HO_23.out (fun _ hk=>⟨hk.1.1,⟨hk.1.2.1,⟨hk.1.2.2.1,⟨hk.2,hk.1.2.2.2⟩⟩⟩⟩))⟩,⟨rR (Kd.R_mono HO454.out (fun _ hk=>hk.2))⟩,⟨kN BK441.out⟩,⟨kB HB.out⟩⟩
   case round =>
    clear H'
    try clear c1
    try clear c2
    try clear p2
    try clear q2
    try clear c4
    try clear p4
    try clear q4
    try clear hx4
    try clear c5
    try clear c6
    try clear c12
    try clear c12b0
    try clear c13
    try clear c13b0
    try clear c14
    try clear c14b0
    try clear c15
    try clear c15b0
    try clear c15b1
    try clear c16
    try clear c16b0
    try clear c16b1
    try clear c17
    try clear c17b0
    try clear c17b1
    try clear c18
    try clear c18b0
    try clear c18b1
    try clear c19
    try clear c19b0
    try clear c19b1
    try clear c20
    try clear c20b0
    try clear c20b1
    try clear c26
    try clear q26
    try clear c28
    try clear q28
    try clear hcz23_0
    try clear hcz23_1
    try clear hcz23_2
    try clear hcz23_3
    try clear hcz23_4
    try clear hfz23_0
    try clear hfz23_1
    try clear hfz23_2
    try clear hfz23_3
    try clear hfz23_4
    try clear hx440_0
    try clear hx440_1
    try clear hx440_2
    try clear hx440_3
    try clear hx440_4
    try clear p2
    try clear p440
    try clear q026
    try clear q028
    try clear q26
    try clear q28
    try clear q440
    obtain⟨x11_2,x44_2,rfl,HA,HK2,HO_11,HO_17,HO_19,HO_23,HO_42,BK441,HB⟩:=hrel
    cases gk with
    | zero=>exact absurd HA.out (by simp [impl_shareOf.l1])
    | succ k2 =>
     have H:=HA.out
     clear HA
     simp only [impl_shareOf.l1] at H
     by_cases c32:x44_2 < (t452.length:Int)
     rotate_left
     ·rw [if_neg c32] at H
      have c32b0:decide (x44_2 < (t452.length:Int)) = false:=decide_eq_false c32
      (try simp only [hl440_0] at c32b0)
      clear c32
      have H':=mk0 H
      clear H
      go_wp2
      go_roundg k2
      case measure=>have:=HK1.out;have:=HK2.out;omega
      case rel=>exact⟨(x11_2),(wrap64 (x25_1 + 1)),(by first|rfl|(simp;done)|(simp [*];done)),H',⟨by have:=HK1.out;have:=HK2.out;omega⟩,⟨rR (Kd.R_mono HO_11.out (fun _ hk=>trivial))⟩,⟨rR HO_17.out⟩,⟨rR HO_19.out⟩,⟨rN (Kd.N_mono HO_23.out (fun _ hk=>⟨hk.1,⟨hk.2.1,hk.2.2.1⟩⟩))⟩,⟨kB HB.out⟩⟩
     rw [if_pos c32] at H
     have c32b0:decide (x44_2 < (t452.length:Int)) = true:=decide_eq_true c32
     (try simp only [hl440_0] at c32b0)
     clear c32
     by_cases c33:0 ≤ x44_2
     rotate_left
     ·rw [if_neg c33] at H
      exact absurd H (by simp)
     rw [if_pos c33] at H
     have c33b0:decide (0 ≤ x44_2) = true:=decide_eq_true c33
     clear c33
     by_cases c34:x44_2 < (t452.length:Int)
     rotate_left
     ·rw [if_neg c34] at H
      exact absurd H (by simp)
     rw [if_pos c34] at H
     have c34b0:decide (x44_2 < (t452.length:Int)) = true:=decide_eq_true c34
     (try simp only [hl440_0] at c34b0)
     clear c34
     by_cases c35:x11_2.length < 8796093022208
     rotate_left
     ·rw [if_neg c35] at H
      exact absurd H (by simp)
     rw [if_pos c35] at H
     have LMc35:=mk0 c35
     clear c35
     obtain⟨y457,hy457⟩:∃ y_:List (S56),y_ = (x11_2 ++ [(⟨wrap64 (((rd_T56 t452 x44_2).f0) + ((rd_T48 t437 x25_1).f1)),wrap64 (((rd_T56 t452 x44_2).f1) + ((rd_T48 t437 x25_1).f3))⟩:S56)]):=⟨_,rfl⟩
     replace H:(impl_shareOf.l1 k2 a3 y457 t431 t434 t437 (t437.length:Int) x25_1 t452 (t452.length:Int) (wrap64 (x44_2 + 1)) ((rd_T48 t437 x25_1).f0) ((rd_T48 t437 x25_1).f1) ((rd_T48 t437 x25_1).f2) ((rd_T48 t437 x25_1).f3) ((rd_T48 t437 x25_1).f4)) = some r:=by first|(rw [hy457];with_reducible exact H)|(have H2_:=(Option.bind_some _ _).symm.trans H;rw [hy457];with_reducible exact H2_)|(have H2_:=(Option.bind_some _ _).symm.trans H;with_reducible exact H2_)|with_reducible exact H|(rw [hy457];exact H)|exact H
     have Ny457:=mk0 hy457
     clear hy457
     have H':=mk0 H
     clear H
     have p455:0 ≤ (x44_2:Int):=of_decide_eq_true (by first|(with_reducible assumption)|assumption)
     have q455:x44_2 < (t452.length:Int):=of_decide_eq_true (by first|(with_reducible assumption)|assumption)
     obtain⟨ad455,e455,hx455_0,hx455_1⟩:=at_T56 (Kd.R_reads' HO_42.out).2.2 x44_2 p455 q455
     cases e455
     replace p455:=eq_true p455
     replace q455:=eq_true q455
     go_wp2_with (first|((with_reducible refine gate_dst (N:=15) rfl ?_);refine box_event ?hg (N:=15) ?hd (cs:=#[.int .i64 0,.int .i64 0]) (t:=56) ?hr ?_;(case hd=>rfl);(case hg=>rfl);(case hr=>first|(go_simp;done)|(go_simp;rfl));intro gb456 hg w36 hbox hb;replace HO_11:=mk0 (Kd.R_below (Kd.R_elderB (rR HO_11.out) gb456 (Nat.le_of_eq hg.symm)) hb);replace HO_17:=mk0 (bR HO_17.out hb);replace HO_19:=mk0 (bR HO_19.out hb);replace HO_23:=mk0 (Kd.N_below (Kd.N_elderB (rN HO_23.out) gb456 (Nat.le_of_eq hg.symm)) hb);replace HO_42:=mk0 (Kd.R_below (Kd.R_elderB (rR HO_42.out) gb456 (Nat.le_of_eq hg.symm)) hb);have BK456:=mk0 (hbox);have GW456:=mk0 ((by rw [hg];exact (kZ HB.out):w.heap.size ≤ gb456));have GE456:=mk0 ((by rw [hg];exact (kZ HB.out):w.heap.size ≤ gb456));replace HB:=mk0 (kS HB.out hb);have NB441_456:=mk0 ((by rw [hg];exact Nat.ne_of_lt (kL BK441.out):gb441 ≠ gb456));have NB456_441:=mk0 ((by rw [hg];exact Nat.ne_of_gt (kL BK441.out):gb456 ≠ gb441));replace BK441:=mk0 (kK BK441.out hb);clear hb hbox hg;have hnb37:=NB456_441.out;have hnc37:=NB441_456.out;obtain⟨hcz38_0,hcz38_1,hfz38_0,hfz38_1⟩:=cz2 BK456.out;obtain⟨hcz39_0,hcz39_1,hcz39_2,hcz39_3,hcz39_4,hfz39_0,hfz39_1,hfz39_2,hfz39_3,hfz39_4⟩:=cz5 BK441.out)|((with_reducible refine gate_builtin (b:=.append) (xs:=#[.tmp 48,.tmp 60]) rfl ?_);at_builtin;refine Kd.R_append k56 (w0:=w) w.heap.size rfl (.tmp 48) (.tmp 60) 27 56 (.agg #[(.int .i64 0),(.int .i64 0)]) 16 rfl Try.underlying27 info56 rfl (by decide) (by omega) u11 x11_2 (⟨wrap64 (((rd_T56 t452 x44_2).f0) + ((rd_T48 t437 x25_1).f1)),wrap64 (((rd_T56 t452 x44_2).f1) + ((rd_T48 t437 x25_1).f3))⟩:S56) [.int .i64 (wrap64 (((rd_T56 t452 x44_2).f0) + ((rd_T48 t437 x25_1).f1))),.int .i64 (wrap64 (((rd_T56 t452 x44_2).f1) + ((rd_T48 t437 x25_1).f3)))] (fun k_=>some k_ ≠ (.slice (some ad455) t452.length co31:Value).ownBlock ∧ k_ ≠ gb456) (fun _=>False) rfl (by first|(go_simp;done)|(go_simp;rfl)) ?aP (fun _ hk=>hk.elim) ?aF ?aO ?aB ?aS ?aL ?_;(case aP=>exact k56_mkM _ _ _ (⟨wrap64 (((rd_T56 t452 x44_2).f0) + ((rd_T48 t437 x25_1).f1)),wrap64 (((rd_T56 t452 x44_2).f1) + ((rd_T48 t437 x25_1).f3))⟩:S56));(case aB=>exact (kB HB.out));(case aF=>exact (fun k_ hk=>⟨Kd.fresh' (Kd.R_lt (by (with_reducible repeat (first|apply aR|apply nR|apply dR));exact (Kd.R_mono (Kd.R_far (p:=⟨gb456,1,none⟩) (Kd.R_far (p:=⟨gb456,0,none⟩) (Kd.R_mono HO_42.out (fun k_ hk=>(⟨hk,hk.2⟩:_ ∧ k_ ≠ gb456))) (fun _ hk=>hk.2) (.int .i64 ((rd_T56 t452 x44_2).f0))) (fun _ hk=>hk.2) (.int .i64 ((rd_T56 t452 x44_2).f1))) (fun _ h_=>h_.1)))) k_ hk,Kd.freshB (g:=gb456) (o:=.cells #[.int .i64 ((rd_T56 t452 x44_2).f0),.int .i64 ((rd_T56 t452 x44_2).f1)] 56 (0,0)) (by (with_reducible repeat (first|apply nB|apply dB|apply aB));refine blk_put (cs:=#[.int .i64 ((rd_T56 t452 x44_2).f0),.int .i64 0]) ?_ 1 _ rfl;(with_reducible repeat (first|apply nB|apply dB|apply aB));refine blk_put (cs:=#[.int .i64 0,.int .i64 0]) ?_ 0 _ rfl;(with_reducible repeat (first|apply nB|apply dB|apply aB));exact BK456.out) k_ hk⟩));(case aO=>exact (by (with_reducible repeat (first|apply aR|apply nR|apply dR));exact Kd.R_mono (Kd.R_far (p:=⟨gb456,1,none⟩) (Kd.R_far (p:=⟨gb456,0,none⟩) (Kd.R_mono HO_11.out (fun k_ hk=>(⟨hk,hk.2⟩:_ ∧ k_ ≠ gb456))) (fun _ hk=>hk.2) (.int .i64 ((rd_T56 t452 x44_2).f0))) (fun _ hk=>hk.2) (.int .i64 ((rd_T56 t452 x44_2).f1))) (fun _ hk=>⟨hk.1.1,hk.1.2⟩)));(case aS=>exact (kZ HB.out));(case aL=>have:=LMc35.out;omega);intro v458 w40 ho hb hg hat;rw [← Ny457.out] at ho;replace HO_17:=mk0 (Kd.R_over' (by (with_reducible repeat (first|apply aR|apply nR|apply dR));exact (Kd.R_mono (Kd.R_far (p:=⟨gb456,1,none⟩) (Kd.R_far (p:=⟨gb456,0,none⟩) (Kd.R_types HO_17.out BK456.out (by decide)) (fun _ hk=>hk.2) (.int .i64 ((rd_T56 t452 x44_2).f0))) (fun _ hk=>hk.2) (.int .i64 ((rd_T56 t452 x44_2).f1))) (fun _ h_=>h_.1))) (Kd.R_typed (by (with_reducible repeat (first|apply aR|apply nR|apply dR));exact (Kd.R_mono (Kd.R_far (p:=⟨gb456,1,none⟩) (Kd.R_far (p:=⟨gb456,0,none⟩) (Kd.R_mono HO_11.out (fun k_ hk=>(⟨hk,hk.2⟩:_ ∧ k_ ≠ gb456))) (fun _ hk=>hk.2) (.int .i64 ((rd_T56 t452 x44_2).f0))) (fun _ hk=>hk.2) (.int .i64 ((rd_T56 t452 x44_2).f1))) (fun _ h_=>h_.1)))) (by decide) hg);replace HO_19:=mk0 (Kd.R_over' (by (with_reducible repeat (first|apply aR|apply nR|apply dR));exact (Kd.R_mono (Kd.R_far (p:=⟨gb456,1,none⟩) (Kd.R_far (p:=⟨gb456,0,none⟩) (Kd.R_types HO_19.out BK456.out (by decide)) (fun _ hk=>hk.2) (.int .i64 ((rd_T56 t452 x44_2).f0))) (fun _ hk=>hk.2) (.int .i64 ((rd_T56 t452 x44_2).f1))) (fun _ h_=>h_.1))) (Kd.R_typed (by (with_reducible repeat (first|apply aR|apply nR|apply dR));exact (Kd.R_mono (Kd.R_far (p:=⟨gb456,1,none⟩) (Kd.R_far (p:=⟨gb456,0,none⟩) (Kd.R_mono HO_11.out (fun k_ hk=>(⟨hk,hk.2⟩:_ ∧ k_ ≠ gb456))) (fun _ hk=>hk.2) (.int .i64 ((rd_T56 t452 x44_2).f0))) (fun _ hk=>hk.2) (.int .i64 ((rd_T56 t452 x44_2).f1))) (fun _ h_=>h_.1)))) (by decide) hg);replace HO_23:=mk0 (Kd.N_afterv (ok:=(fun k_=>some k_ ≠ (.slice Ao27 t431.length co27:Value).ownBlock ∧ some k_ ≠ (.slice Ao29 t434.length co29:Value).ownBlock ∧ some k_ ≠ (.slice (some ad455) t452.length co31:Value).ownBlock ∧ k_ ≠ gb441 ∧ k_ ≠ gb456)) (by (with_reducible repeat (first|apply aN|apply nN|apply dN));exact Kd.N_mono (Kd.N_far (p:=⟨gb456,1,none⟩) (Kd.N_far (p:=⟨gb456,0,none⟩) (Kd.N_mono HO_23.out (fun k_ hk=>(⟨hk,hk.2⟩:_ ∧ k_ ≠ gb456))) (fun _ hk=>hk.2) (.int .i64 ((rd_T56 t452 x44_2).f0))) (fun _ hk=>hk.2) (.int .i64 ((rd_T56 t452 x44_2).f1))) (fun _ hk=>⟨⟨hk.1.1.2.1,⟨hk.1.1.2.2.1,⟨hk.1.1.2.2.2.1,⟨hk.1.1.2.2.2.2,hk.1.2⟩⟩⟩⟩,hk.1.1.1⟩)) hg hat);replace HO_42:=mk0 (Kd.R_after (ok:=(fun k_=>k_ ≠ gb456)) (by (with_reducible repeat (first|apply aR|apply nR|apply dR));exact Kd.R_mono (Kd.R_far (p:=⟨gb456,1,none⟩) (Kd.R_far (p:=⟨gb456,0,none⟩) (Kd.R_mono HO_42.out (fun k_ hk=>(⟨hk,hk.2⟩:_ ∧ k_ ≠ gb456))) (fun _ hk=>hk.2) (.int .i64 ((rd_T56 t452 x44_2).f0))) (fun _ hk=>hk.2) (.int .i64 ((rd_T56 t452 x44_2).f1))) (fun _ hk=>⟨hk.1.2,hk.1.1⟩)) hg hat);replace BK441:=mk0 (blk_grown (g:=gb441) (o:=.cells #[.slice A440_0 ((rd_T48 t437 x25_1).f0).length c440_0,.int .i64 ((rd_T48 t437 x25_1).f1),.int .i64 ((rd_T48 t437 x25_1).f2),.int .i64 ((rd_T48 t437 x25_1).f3),.int .i64 ((rd_T48 t437 x25_1).f4)] 48 (0,0)) (by (with_reducible repeat (first|apply nB|apply dB|apply aB));refine blk_far ?_ NB441_456.out _;(with_reducible repeat (first|apply nB|apply dB|apply aB));refine blk_far ?_ NB441_456.out _;(with_reducible repeat (first|apply nB|apply dB|apply aB));exact BK441.out) hg (Kd.R_ne HO_11.out BK441.out (by decide)));replace BK456:=mk0 (blk_grown (g:=gb456) (o:=.cells #[.int .i64 ((rd_T56 t452 x44_2).f0),.int .i64 ((rd_T56 t452 x44_2).f1)] 56 (0,0)) (by (with_reducible repeat (first|apply nB|apply dB|apply aB));refine blk_put (cs:=#[.int .i64 ((rd_T56 t452 x44_2).f0),.int .i64 0]) ?_ 1 _ rfl;(with_reducible repeat (first|apply nB|apply dB|apply aB));refine blk_put (cs:=#[.int .i64 0,.int .i64 0]) ?_ 0 _ rfl;(with_reducible repeat (first|apply nB|apply dB|apply aB));exact BK456.out) hg (Kd.R_away HO_11.out (fun _ hk=>hk.2)));replace HB:=mk0 (hb);have HO459:=mk0 (ho);clear HO_11 ho hb hg hat))
     go_roundg k2
     case measure=>have:=HK1.out;have:=HK2.out;omega
     case rel=>exact⟨(y457),(wrap64 (x44_2 + 1)),(by first|rfl|(simp;done)|(simp [*];done)),H',⟨by have:=HK1.out;have:=HK2.out;omega⟩,⟨rR (Kd.R_mono HO459.out (fun _ hk=>hk.1))⟩,⟨rR HO_17.out⟩,⟨rR HO_19.out⟩,⟨rN (Kd.N_mono HO_23.out (fun _ hk=>⟨hk.2,⟨hk.1.1,⟨hk.1.2.1,⟨hk.1.2.2.1,hk.1.2.2.2.1⟩⟩⟩⟩))⟩,⟨rR (Kd.R_mono HO_42.out (fun _ hk=>hk.2))⟩,⟨kN BK441.out⟩,⟨kB HB.out⟩⟩
def impl_ShareOf.f (k : Nat) (l0 : List Int) (l1 : List Int) (a2 : Int) (a3 : Int) : Option ((List (S56))) := (impl_isShared.f l0 l1 a2).bind fun t460 => (if t460 = true then ((impl_shareOf.f k l0 l1 a2 a3).bind fun t461 => (some t461)) else (some ([] : List (S56))))
theorem impl_ShareOf.mono : ∀ a0 a1 a2 a3 k, LeO (impl_ShareOf.f k a0 a1 a2 a3) (impl_ShareOf.f (k + 1) a0 a1 a2 a3) := by
 intro a0 a1 a2 a3 k
 unfold impl_ShareOf.f
 repeat' first|(with_reducible first|exact impl_shareOf.mono _ _ _ _ _|exact LeO.refl _|exact LeO.none _|refine LeO.ite ?_ ?_|refine LeO.bind ?_ (fun _ => ?_))|exact LeO.none _|refine LeO.ite ?_ ?_|refine LeO.bind ?_ (fun _ => ?_)
set_option maxHeartbeats 8000000 in
set_option maxRecDepth 100000 in
theorem impl_ShareOf.calls (k : Nat) (A0 : Option Addr) (c0 : Nat) (l0 : List Int) (A1 : Option Addr) (c1 : Nat) (l1 : List Int) (a2 : Int) (a3 : Int) (r : List (S56)) (w : World) (hr0 : Kd.C (Kd.int .u8) w A0 l0.length l0) (hc0 : l0.length ≤ c0) (hr1 : Kd.C (Kd.int .u8) w A1 l1.length l1) (hc1 : l1.length ≤ c1) (h : impl_ShareOf.f k l0 l1 a2 a3 = some r) :
  Calls Try.prog 14 #[.slice A0 l0.length c0, .slice A1 l1.length c1, .int .i64 a2, .int .i64 a3] w fun e w' => ∃ v0_ : Value, e = .returned (v0_) ∧ Kd.R k56 56 w' w.heap.size (fun _ => True) v0_ r ∧ Below w.heap.size w w' := by
 have HR0:=mk0 hr0
 have HC0:=mk0 hc0
 clear hr0 hc0
 have HR1:=mk0 hr1
 have HC1:=mk0 hc1
 clear hr1 hc1
 have HB:=mk0 (Below.refl w.heap.size w)
 have H:((impl_isShared.f l0 l1 a2).bind fun t460=>(if t460 = true then ((impl_shareOf.f k l0 l1 a2 a3).bind fun t461=>(some t461)) else (some ([]:List (S56))))) = some r:=h
 clear h
 replace H:=Option.bind_eq_some_iff.mp H
 obtain⟨t460,A50,H⟩:=H
 replace H:(if t460 = true then ((impl_shareOf.f k l0 l1 a2 a3).bind fun t461=>(some t461)) else (some ([]:List (S56)))) = some r:=H
 have A5:=mk0 A50
 clear A50
 by_cases c6:t460 = true
 ·subst c6
  have H1:((impl_shareOf.f k l0 l1 a2 a3).bind fun t461=>(some t461)) = some r:=by rw [if_pos rfl] at H;exact H
  clear H
  have H:=H1
  clear H1
  replace H:=Option.bind_eq_some_iff.mp H
  obtain⟨t461,A70,H⟩:=H
  replace H:(some t461) = some r:=H
  have A7:=mk0 A70
  clear A70
  obtain rfl:=Option.some.inj H
  go_enter Try.func14,Try.ntmps14
  go_wp2_with (first|((with_reducible refine gate_callee (f:=38) rfl ?_);refine goesL_ (some 12) rfl rfl Try.func38 (by kernel_rfl) rfl #[.slice A0 l0.length c0,.slice A1 l1.length c1,.int .i64 a2] rfl (by (try simp only [mA,mC,mN]);first|done|rfl|(simp only [List.length_drop,List.length_take];done)|(simp only [List.length_drop,List.length_take];rfl)) ?_;(with_reducible refine (impl_isShared.calls _ _ l0 _ _ l1 a2 true _ ?side1 ?side2 ?side3 ?side4 A5.out).mono ?_);(case side1=>repeat (first|exact HR0.out|(with_reducible first|apply aC|apply nC|apply dC)));(case side2=>exact HC0.out);(case side3=>repeat (first|exact HR1.out|(with_reducible first|apply aC|apply nC|apply dC)));(case side4=>exact HC1.out);rintro e w' ⟨rfl,⟨nd,rfl⟩⟩;refine⟨_,rfl,?_⟩)|((with_reducible refine gate_callee (f:=41) rfl ?_);refine goesL_ (some 18) rfl rfl Try.func41 (by kernel_rfl) rfl #[.slice A0 l0.length c0,.slice A1 l1.length c1,.int .i64 a2,.int .i64 a3] rfl (by (try simp only [mA,mC,mN]);first|done|rfl|(simp only [List.length_drop,List.length_take];done)|(simp only [List.length_drop,List.length_take];rfl)) ?_;(with_reducible refine (impl_shareOf.calls k _ _ l0 _ _ l1 a2 a3 t461 _ ?side1 ?side2 ?side3 ?side4 A7.out).mono ?_);(case side1=>repeat (first|exact HR0.out|(with_reducible first|apply aC|apply nC|apply dC)));(case side2=>exact HC0.out);(case side3=>repeat (first|exact HR1.out|(with_reducible first|apply aC|apply nC|apply dC)));(case side4=>exact HC1.out);rintro e w8 ⟨v462,rfl,ho0,hb⟩;refine⟨_,rfl,?_⟩;have HO463:=mk0 (Kd.R_lower ho0 (kZ HB.out));replace HB:=mk0 (kS HB.out hb);(try clear hb);(try clear ho0)))
  go_ret
  exact⟨_,by first|rfl|(simp [errW_none,errW_some] <;> rfl)|(simp [*,errW_none,errW_some] <;> rfl),rR HO463.out,kB HB.out⟩
 ·replace c6:=Bool.eq_false_iff.mpr c6
  subst c6
  have H1:(some ([]:List (S56))) = some r:=by rw [if_neg (show ¬ (false = true) by decide)] at H;exact H
  clear H
  have H:=H1
  clear H1
  obtain rfl:=Option.some.inj H
  go_enter Try.func14,Try.ntmps14
  go_wp2_with (first|((with_reducible refine gate_callee (f:=38) rfl ?_);refine goesL_ (some 12) rfl rfl Try.func38 (by kernel_rfl) rfl #[.slice A0 l0.length c0,.slice A1 l1.length c1,.int .i64 a2] rfl (by (try simp only [mA,mC,mN]);first|done|rfl|(simp only [List.length_drop,List.length_take];done)|(simp only [List.length_drop,List.length_take];rfl)) ?_;(with_reducible refine (impl_isShared.calls _ _ l0 _ _ l1 a2 false _ ?side1 ?side2 ?side3 ?side4 A5.out).mono ?_);(case side1=>repeat (first|exact HR0.out|(with_reducible first|apply aC|apply nC|apply dC)));(case side2=>exact HC0.out);(case side3=>repeat (first|exact HR1.out|(with_reducible first|apply aC|apply nC|apply dC)));(case side4=>exact HC1.out);rintro e w' ⟨rfl,⟨nd,rfl⟩⟩;refine⟨_,rfl,?_⟩))
  go_ret
  exact⟨_,by first|rfl|(simp [errW_none,errW_some] <;> rfl)|(simp [*,errW_none,errW_some] <;> rfl),by first|exact Kd.R_nil _ _ _ _ _|exact Kd.N_nil _ _ _ _ _|exact Kd.V_nil _ _ _ _ _|exact Kd.Q_nil _ _ _ _ _|exact Kd.S_nil _ _ _ _ _,kB HB.out⟩
def laws_eqPair.f (a0_0 : Int) (a0_1 : Int) (a1_0 : Int) (a1_1 : Int) : Option (Bool) := if a0_0 = a1_0 then (if a0_1 = a1_1 then (some true) else (some false)) else (some false)
set_option maxHeartbeats 8000000 in
set_option maxRecDepth 100000 in
theorem laws_eqPair.calls (a0_0 : Int) (a0_1 : Int) (a1_0 : Int) (a1_1 : Int) (r : Bool) (w : World) (h : laws_eqPair.f a0_0 a0_1 a1_0 a1_1 = some r) :
  Calls Try.prog 43 #[.agg #[.int .i64 a0_0, .int .i64 a0_1], .agg #[.int .i64 a1_0, .int .i64 a1_1]] w fun e w' => e = .returned (.bool r) ∧ Below w.heap.size w w' := by
 have hu56:=Try.underlying56
 have HB:=mk0 (Below.refl w.heap.size w)
 have H:(if a0_0 = a1_0 then (if a0_1 = a1_1 then (some true) else (some false)) else (some false)) = some r:=h
 clear h
 by_cases c3:a0_0 = a1_0
 ·rw [if_pos c3] at H
  have c3b0:(a0_0 == a1_0) = true:=beq_iff_eq.mpr c3
  have c3b1:(a0_0 != a1_0) = false:=bne_eq_false_iff_eq.mpr c3
  clear c3
  by_cases c4:a0_1 = a1_1
  ·rw [if_pos c4] at H
   have c4b0:(a0_1 == a1_1) = true:=beq_iff_eq.mpr c4
   have c4b1:(a0_1 != a1_1) = false:=bne_eq_false_iff_eq.mpr c4
   clear c4
   obtain rfl:=Option.some.inj H
   go_enter Try.func43,Try.ntmps43
   go_wp2_with (first|((with_reducible refine gate_dst (N:=2) rfl ?_);refine box_event ?hg (N:=2) ?hd (cs:=#[.int .i64 a0_0,.int .i64 a0_1]) (t:=56) ?hr ?_;(case hd=>rfl);(case hg=>rfl);(case hr=>first|(go_simp;done)|(go_simp;rfl));intro gb464 hg w5 hbox hb;have BK464:=mk0 (hbox);have GW464:=mk0 ((by rw [hg];exact (kZ HB.out):w.heap.size ≤ gb464));have GE464:=mk0 ((by rw [hg];exact (kZ HB.out):w.heap.size ≤ gb464));replace HB:=mk0 (kS HB.out hb);clear hb hbox hg)|((with_reducible refine gate_dst (N:=3) rfl ?_);refine box_event ?hg (N:=3) ?hd (cs:=#[.int .i64 a1_0,.int .i64 a1_1]) (t:=56) ?hr ?_;(case hd=>rfl);(case hg=>rfl);(case hr=>first|(go_simp;done)|(go_simp;rfl));intro gb465 hg w6 hbox hb;have BK465:=mk0 (hbox);have GW465:=mk0 ((by rw [hg];exact (kZ HB.out):w.heap.size ≤ gb465));have GE465:=mk0 ((by rw [hg];exact (kZ HB.out):w.heap.size ≤ gb465));replace HB:=mk0 (kS HB.out hb);have NB464_465:=mk0 ((by rw [hg];exact Nat.ne_of_lt (kL BK464.out):gb464 ≠ gb465));have NB465_464:=mk0 ((by rw [hg];exact Nat.ne_of_gt (kL BK464.out):gb465 ≠ gb464));replace BK464:=mk0 (kK BK464.out hb);clear hb hbox hg;have hnb7:=NB464_465.out;have hnc7:=NB465_464.out;obtain⟨hcz8_0,hcz8_1,hfz8_0,hfz8_1⟩:=cz2 BK464.out;obtain⟨hcz9_0,hcz9_1,hfz9_0,hfz9_1⟩:=cz2 BK465.out))
   go_ret
   exact⟨by first|rfl|(simp [errW_none,errW_some] <;> rfl)|(simp [*,errW_none,errW_some] <;> rfl),kB HB.out⟩
  ·rw [if_neg c4] at H
   have c4b0:(a0_1 == a1_1) = false:=beq_eq_false_iff_ne.mpr c4
   have c4b1:(a0_1 != a1_1) = true:=bne_iff_ne.mpr c4
   obtain rfl:=Option.some.inj H
   go_enter Try.func43,Try.ntmps43
   go_wp2_with (first|((with_reducible refine gate_dst (N:=2) rfl ?_);refine box_event ?hg (N:=2) ?hd (cs:=#[.int .i64 a0_0,.int .i64 a0_1]) (t:=56) ?hr ?_;(case hd=>rfl);(case hg=>rfl);(case hr=>first|(go_simp;done)|(go_simp;rfl));intro gb464 hg w10 hbox hb;have BK464:=mk0 (hbox);have GW464:=mk0 ((by rw [hg];exact (kZ HB.out):w.heap.size ≤ gb464));have GE464:=mk0 ((by rw [hg];exact (kZ HB.out):w.heap.size ≤ gb464));replace HB:=mk0 (kS HB.out hb);clear hb hbox hg)|((with_reducible refine gate_dst (N:=3) rfl ?_);refine box_event ?hg (N:=3) ?hd (cs:=#[.int .i64 a1_0,.int .i64 a1_1]) (t:=56) ?hr ?_;(case hd=>rfl);(case hg=>rfl);(case hr=>first|(go_simp;done)|(go_simp;rfl));intro gb465 hg w11 hbox hb;have BK465:=mk0 (hbox);have GW465:=mk0 ((by rw [hg];exact (kZ HB.out):w.heap.size ≤ gb465));have GE465:=mk0 ((by rw [hg];exact (kZ HB.out):w.heap.size ≤ gb465));replace HB:=mk0 (kS HB.out hb);have NB464_465:=mk0 ((by rw [hg];exact Nat.ne_of_lt (kL BK464.out):gb464 ≠ gb465));have NB465_464:=mk0 ((by rw [hg];exact Nat.ne_of_gt (kL BK464.out):gb465 ≠ gb464));replace BK464:=mk0 (kK BK464.out hb);clear hb hbox hg;have hnb12:=NB464_465.out;have hnc12:=NB465_464.out;obtain⟨hcz13_0,hcz13_1,hfz13_0,hfz13_1⟩:=cz2 BK464.out;obtain⟨hcz14_0,hcz14_1,hfz14_0,hfz14_1⟩:=cz2 BK465.out))
   go_ret
   exact⟨by first|rfl|(simp [errW_none,errW_some] <;> rfl)|(simp [*,errW_none,errW_some] <;> rfl),kB HB.out⟩
 ·rw [if_neg c3] at H
  have c3b0:(a0_0 == a1_0) = false:=beq_eq_false_iff_ne.mpr c3
  have c3b1:(a0_0 != a1_0) = true:=bne_iff_ne.mpr c3
  obtain rfl:=Option.some.inj H
  go_enter Try.func43,Try.ntmps43
  go_wp2_with (first|((with_reducible refine gate_dst (N:=2) rfl ?_);refine box_event ?hg (N:=2) ?hd (cs:=#[.int .i64 a0_0,.int .i64 a0_1]) (t:=56) ?hr ?_;(case hd=>rfl);(case hg=>rfl);(case hr=>first|(go_simp;done)|(go_simp;rfl));intro gb464 hg w15 hbox hb;have BK464:=mk0 (hbox);have GW464:=mk0 ((by rw [hg];exact (kZ HB.out):w.heap.size ≤ gb464));have GE464:=mk0 ((by rw [hg];exact (kZ HB.out):w.heap.size ≤ gb464));replace HB:=mk0 (kS HB.out hb);clear hb hbox hg)|((with_reducible refine gate_dst (N:=3) rfl ?_);refine box_event ?hg (N:=3) ?hd (cs:=#[.int .i64 a1_0,.int .i64 a1_1]) (t:=56) ?hr ?_;(case hd=>rfl);(case hg=>rfl);(case hr=>first|(go_simp;done)|(go_simp;rfl));intro gb465 hg w16 hbox hb;have BK465:=mk0 (hbox);have GW465:=mk0 ((by rw [hg];exact (kZ HB.out):w.heap.size ≤ gb465));have GE465:=mk0 ((by rw [hg];exact (kZ HB.out):w.heap.size ≤ gb465));replace HB:=mk0 (kS HB.out hb);have NB464_465:=mk0 ((by rw [hg];exact Nat.ne_of_lt (kL BK464.out):gb464 ≠ gb465));have NB465_464:=mk0 ((by rw [hg];exact Nat.ne_of_gt (kL BK464.out):gb465 ≠ gb464));replace BK464:=mk0 (kK BK464.out hb);clear hb hbox hg;have hnb17:=NB464_465.out;have hnc17:=NB465_464.out;obtain⟨hcz18_0,hcz18_1,hfz18_0,hfz18_1⟩:=cz2 BK464.out;obtain⟨hcz19_0,hcz19_1,hfz19_0,hfz19_1⟩:=cz2 BK465.out))
  go_ret
  exact⟨by first|rfl|(simp [errW_none,errW_some] <;> rfl)|(simp [*,errW_none,errW_some] <;> rfl),kB HB.out⟩
end Go.Proofs.Ytadhngelhognaaa.QFnExactShareOf
