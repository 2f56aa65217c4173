-- A walk, made by walk.py, a program of this session's.
import Derived.Test.YtadhngelhognaaaQFnSharex0
import Derived.Test.YtadhngelhognaaaQFnSharex8
import Derived.Test.YtadhngelhognaaaQFnSharex10
import Derived.Test.YtadhngelhognaaaQFnSharex11
namespace Go.Proofs.Ytadhngelhognaaa.QFnShare
open Go.RowKit Go.Proofs.YtadhngelhognaaaW.PrintWords Go.Proofs.YtadhngelhognaaaW.PrintLast Go.Proofs.YtadhngelhognaaaW.PrintMore
attribute [local go_sem] max2_int min2_int max_two min_two max_three min_three max_four min_four   -- for this text's walks alone
set_option linter.unusedVariables false
set_option linter.unusedSimpArgs false
/-! ### impl_CommonWithin: function 65 -/
def impl_CommonWithin.f (k : Nat) (l0 : List Int) (l1 : List Int) (a2 : Int) : Option ((List (S56))) := (impl_areListed.f l0 l1).bind fun t437 => (if t437 = true then ((impl_commonOf.f k l0 l1).bind fun t438 => (if (wrap64 ((wrap64 ((l0.length : Int) + (l1.length : Int))) - (wrap64 (2 * (t438.length : Int))))) > a2 then (some ([] : List (S56))) else (some t438))) else (some ([] : List (S56))))
set_option maxHeartbeats 8000000 in
set_option maxRecDepth 100000 in
theorem impl_CommonWithin.calls (k : Nat) (A0 : Option Addr) (c0 : Nat) (l0 : List Int) (A1 : Option Addr) (c1 : Nat) (l1 : List Int) (a2 : Int) (r : List (S56)) (w : World) (hr0 : Kd.C (Kd.int .i64) w A0 l0.length l0) (hc0 : l0.length ≤ c0) (hr1 : Kd.C (Kd.int .i64) w A1 l1.length l1) (hc1 : l1.length ≤ c1) (h : impl_CommonWithin.f k l0 l1 a2 = some r) :
  Calls Try.prog 65 #[.slice A0 l0.length c0, .slice A1 l1.length c1, .int .i64 a2] w fun e w' => ∃ v0_ : Value, e = .returned (v0_) ∧ Kd.R k56 56 w' w.heap.size (fun _ => True) v0_ r ∧ Below w.heap.size w w' := by
 have HR0:=mk0 hr0
 have HC0:=mk0 hc0
 clear hr0 hc0
 have HR1:=mk0 hr1
 have HC1:=mk0 hc1
 clear hr1 hc1
 have HB:=mk0 (Below.refl w.heap.size w)
 have H:((impl_areListed.f l0 l1).bind fun t437=>(if t437 = true then ((impl_commonOf.f k l0 l1).bind fun t438=>(if (wrap64 ((wrap64 ((l0.length:Int) + (l1.length:Int))) - (wrap64 (2 * (t438.length:Int))))) > a2 then (some ([]:List (S56))) else (some t438))) else (some ([]:List (S56))))) = some r:=h
 clear h
 replace H:=bE H
 obtain⟨t437,A4,H⟩:=H
 by_cases c5:t437 = true
 ·subst c5
  replace H:=iT H
  replace H:=bE H
  obtain⟨t438,A6,H⟩:=H
  by_cases c7:(wrap64 ((wrap64 ((l0.length:Int) + (l1.length:Int))) - (wrap64 (2 * (t438.length:Int))))) > a2
  ·rw [if_pos c7] at H
   have c7b0:decide (a2 < (wrap64 ((wrap64 ((l0.length:Int) + (l1.length:Int))) - (wrap64 (2 * (t438.length:Int)))))) = true:=decide_eq_true c7
   clear c7
   obtain rfl:=Option.some.inj H
   go_enter Try.func65,Try.ntmps65
   go_wp2_with (first|((with_reducible refine gate_callee (f:=62) rfl ?_);refine gL (some 10) Try.func62 #[.slice A0 l0.length c0,.slice A1 l1.length c1] ?_;(with_reducible refine (impl_areListed.calls _ _ l0 _ _ l1 true _ ?side1 ?side2 ?side3 ?side4 A4.out).mono ?_);(case side1=>exact kC HR0.out);(case side2=>exact HC0.out);(case side3=>exact kC HR1.out);(case side4=>exact HC1.out);rintro e w' ⟨rfl,⟨nd,rfl⟩⟩;refine⟨_,rfl,?_⟩)|((with_reducible refine gate_callee (f:=81) rfl ?_);refine gL (some 14) Try.func81 #[.slice A0 l0.length c0,.slice A1 l1.length c1] ?_;(with_reducible refine (impl_commonOf.calls k _ _ l0 _ _ l1 t438 _ ?side1 ?side2 ?side3 ?side4 A6.out).mono ?_);(case side1=>exact kC HR0.out);(case side2=>exact HC0.out);(case side3=>exact kC HR1.out);(case side4=>exact HC1.out);rintro e w8 ⟨v439,rfl,ho0,hb⟩;refine⟨_,rfl,?_⟩;have HO440:=mk0 (Kd.R_lower ho0 (kZ HB.out));replace HB:=mk0 (kS HB.out hb);(try clear hb);(try clear ho0);obtain⟨Ao9,co9,eo9⟩:=Kd.R_slice HO440.out;subst eo9))
   go_ret
   exact⟨_,eR,by first|exact Kd.R_nil _ _ _ _ _|exact Kd.N_nil _ _ _ _ _|exact Kd.V_nil _ _ _ _ _|exact Kd.Q_nil _ _ _ _ _|exact Kd.S_nil _ _ _ _ _,kB HB.out⟩
  ·rw [if_neg c7] at H
   have c7b0:decide (a2 < (wrap64 ((wrap64 ((l0.length:Int) + (l1.length:Int))) - (wrap64 (2 * (t438.length:Int)))))) = false:=decide_eq_false c7
   clear c7
   obtain rfl:=Option.some.inj H
   go_enter Try.func65,Try.ntmps65
   go_wp2_with (first|((with_reducible refine gate_callee (f:=62) rfl ?_);refine gL (some 10) Try.func62 #[.slice A0 l0.length c0,.slice A1 l1.length c1] ?_;(with_reducible refine (impl_areListed.calls _ _ l0 _ _ l1 true _ ?side1 ?side2 ?side3 ?side4 A4.out).mono ?_);(case side1=>exact kC HR0.out);(case side2=>exact HC0.out);(case side3=>exact kC HR1.out);(case side4=>exact HC1.out);rintro e w' ⟨rfl,⟨nd,rfl⟩⟩;refine⟨_,rfl,?_⟩)|((with_reducible refine gate_callee (f:=81) rfl ?_);refine gL (some 14) Try.func81 #[.slice A0 l0.length c0,.slice A1 l1.length c1] ?_;(with_reducible refine (impl_commonOf.calls k _ _ l0 _ _ l1 t438 _ ?side1 ?side2 ?side3 ?side4 A6.out).mono ?_);(case side1=>exact kC HR0.out);(case side2=>exact HC0.out);(case side3=>exact kC HR1.out);(case side4=>exact HC1.out);rintro e w10 ⟨v439,rfl,ho0,hb⟩;refine⟨_,rfl,?_⟩;have HO440:=mk0 (Kd.R_lower ho0 (kZ HB.out));replace HB:=mk0 (kS HB.out hb);(try clear hb);(try clear ho0);obtain⟨Ao11,co11,eo11⟩:=Kd.R_slice HO440.out;subst eo11))
   go_ret
   exact⟨_,eR,rR HO440.out,kB HB.out⟩
 ·replace c5:=Bool.eq_false_iff.mpr c5
  subst c5
  replace H:=iF H
  obtain rfl:=Option.some.inj H
  go_enter Try.func65,Try.ntmps65
  go_wp2_with (first|((with_reducible refine gate_callee (f:=62) rfl ?_);refine gL (some 10) Try.func62 #[.slice A0 l0.length c0,.slice A1 l1.length c1] ?_;(with_reducible refine (impl_areListed.calls _ _ l0 _ _ l1 false _ ?side1 ?side2 ?side3 ?side4 A4.out).mono ?_);(case side1=>exact kC HR0.out);(case side2=>exact HC0.out);(case side3=>exact kC HR1.out);(case side4=>exact HC1.out);rintro e w' ⟨rfl,⟨nd,rfl⟩⟩;refine⟨_,rfl,?_⟩))
  go_ret
  exact⟨_,eR,by first|exact Kd.R_nil _ _ _ _ _|exact Kd.N_nil _ _ _ _ _|exact Kd.V_nil _ _ _ _ _|exact Kd.Q_nil _ _ _ _ _|exact Kd.S_nil _ _ _ _ _,kB HB.out⟩
/-! ### impl_shareOf: function 41 -/
mutual
def impl_shareOf.l0 : Nat → Int → List (S56) → List Int → List Int → List (S48) → Int → Int → Option ((List (S56)))
 | 0, _, _, _, _, _, _, _ => none
 | k + 1, x3, x11, x17, x19, x23, x24, x25 => if x25 < x24 then (if 0 ≤ x25 then (if x25 < (x23.length : Int) then (if 0 ≤ ((rd_T48 x23 x25).f1) then (if ((rd_T48 x23 x25).f1) ≤ ((rd_T48 x23 x25).f2) then (if ((rd_T48 x23 x25).f2) ≤ (x17.length : Int) then (if 0 ≤ ((rd_T48 x23 x25).f3) then (if ((rd_T48 x23 x25).f3) ≤ ((rd_T48 x23 x25).f4) then (if ((rd_T48 x23 x25).f4) ≤ (x19.length : Int) then ((impl_CommonWithin.f k ((x17.take (((rd_T48 x23 x25).f2) : Int).toNat).drop (((rd_T48 x23 x25).f1) : Int).toNat) ((x19.take (((rd_T48 x23 x25).f4) : Int).toNat).drop (((rd_T48 x23 x25).f3) : Int).toNat) x3).bind fun t462 => (impl_shareOf.l1 k x3 x11 x17 x19 x23 x24 x25 t462 (t462.length : Int) 0 ((rd_T48 x23 x25).f0) ((rd_T48 x23 x25).f1) ((rd_T48 x23 x25).f2) ((rd_T48 x23 x25).f3) ((rd_T48 x23 x25).f4))) else (none)) else (none)) else (none)) else (none)) else (none)) else (none)) else (none)) else (none)) else (some x11)
def impl_shareOf.l1 : Nat → Int → List (S56) → List Int → List Int → List (S48) → Int → Int → List (S56) → Int → Int → List Int → Int → Int → Int → Int → Option ((List (S56)))
 | 0, _, _, _, _, _, _, _, _, _, _, _, _, _, _, _ => none
 | k + 1, x3, x11, x17, x19, x23, x24, x25, x42, x43, x44, x452000, x452001, x452002, x452003, x452004 => if x44 < x43 then (if 0 ≤ x44 then (if x44 < (x42.length : Int) then (if x11.length < 8796093022208 then (impl_shareOf.l1 k x3 (x11 ++ [(⟨wrap64 (((rd_T56 x42 x44).f0) + x452001), wrap64 (((rd_T56 x42 x44).f1) + x452003)⟩ : S56)]) x17 x19 x23 x24 x25 x42 x43 (wrap64 (x44 + 1)) x452000 x452001 x452002 x452003 x452004) else (none)) else (none)) else (none)) else (impl_shareOf.l0 k x3 x11 x17 x19 x23 x24 (wrap64 (x25 + 1)))
end
def impl_shareOf.f (k : Nat) (l0 : List Int) (l1 : List Int) (a2 : Int) (a3 : Int) : Option ((List (S56))) := (impl_bwtOf.f k l0).bind fun t441 => ((impl_bwtOf.f k l1).bind fun t444 => ((impl_parts.f k l0 l1 a2).bind fun t447 => (impl_shareOf.l0 k a3 ([] : List (S56)) t441 t444 t447 (t447.length : Int) 0)))
def impl_shareOf.T6 : Bool × List (List Nat × List Nat) := (true, [([], []), ([], []), ([1], [1]), ([], []), ([3], [3]), ([0, 2, 4], [0, 2, 4]), ([], []), ([], []), ([7], [7]), ([], []), ([9], [9]), ([6, 8, 10], [6, 8, 10]), ([], []), ([5, 11, 12], [5, 11, 12]), ([13], [13]), ([], [])])
def impl_shareOf.B6 : List Nat := [0, 0, 2, 0, 8, 31, 0, 0, 128, 0, 512, 1984, 0, 8191, 16383, 0]
theorem impl_shareOf.tab6 : rtab .any (opsOf Try.f41 6) = impl_shareOf.T6 := by kernel_rfl
theorem impl_shareOf.bits6 : waitsOk impl_shareOf.T6.2 impl_shareOf.B6 = true := by kernel_rfl
set_option maxHeartbeats 8000000 in
set_option maxRecDepth 100000 in
theorem impl_shareOf.calls (k : Nat) (A0 : Option Addr) (c0 : Nat) (l0 : List Int) (A1 : Option Addr) (c1 : Nat) (l1 : List Int) (a2 : Int) (a3 : Int) (r : List (S56)) (w : World) (hr0 : Kd.C (Kd.int .u8) w A0 l0.length l0) (hc0 : l0.length ≤ c0) (hr1 : Kd.C (Kd.int .u8) w A1 l1.length l1) (hc1 : l1.length ≤ c1) (h : impl_shareOf.f k l0 l1 a2 a3 = some r) :
  Calls Try.prog 41 #[.slice A0 l0.length c0, .slice A1 l1.length c1, .int .i64 a2, .int .i64 a3] w fun e w' => ∃ v0_ : Value, e = .returned (v0_) ∧ Kd.R k56 56 w' w.heap.size (fun _ => True) v0_ r ∧ Below w.heap.size w w' := by
 have hu48:=Try.underlying48
 have hu56:=Try.underlying56
 have HR0:=mk0 hr0
 have HC0:=mk0 hc0
 clear hr0 hc0
 have HR1:=mk0 hr1
 have HC1:=mk0 hc1
 clear hr1 hc1
 have HB:=mk0 (Below.refl w.heap.size w)
 have H:((impl_bwtOf.f k l0).bind fun t441=>((impl_bwtOf.f k l1).bind fun t444=>((impl_parts.f k l0 l1 a2).bind fun t447=>(impl_shareOf.l0 k a3 ([]:List (S56)) t441 t444 t447 (t447.length:Int) 0)))) = some r:=h
 clear h
 replace H:=bE H
 obtain⟨t441,A5,H⟩:=H
 replace H:=bE H
 obtain⟨t444,A6,H⟩:=H
 replace H:=bE H
 obtain⟨t447,A7,H⟩:=H
 have H':=mk0 H
 clear H
 go_enter Try.func41,Try.ntmps41
 go_wp2_with (first|((with_reducible refine gate_callee (f:=40) rfl ?_);refine gL (some 17) Try.func40 #[.slice A0 l0.length c0] ?_;(with_reducible refine (impl_bwtOf.calls k _ _ l0 t441 _ ?side1 ?side2 A5.out).mono ?_);(case side1=>exact kC HR0.out);(case side2=>exact HC0.out);rintro e w8 ⟨v442,rfl,ho0,hb⟩;refine⟨_,rfl,?_⟩;have HO443:=mk0 (Kd.R_lower ho0 (kZ HB.out));replace HB:=mk0 (kS HB.out hb);(try clear hb);(try clear ho0))|((with_reducible refine gate_callee (f:=40) rfl ?_);refine gL (some 19) Try.func40 #[.slice A1 l1.length c1] ?_;(with_reducible refine (impl_bwtOf.calls k _ _ l1 t444 _ ?side1 ?side2 A6.out).mono ?_);(case side1=>exact kC (Kd.C_below HR1.out HB.out));(case side2=>exact HC1.out);rintro e w9 ⟨v445,rfl,ho0,hb⟩;refine⟨_,rfl,?_⟩;have HO446:=mk0 (Kd.R_lower (Kd.R_new' ho0 (Kd.R_lt (rR HO443.out))) (kZ HB.out));replace HO443:=mk0 (Kd.R_elder' (rR HO443.out) (Kd.R_base ho0) hb);replace HB:=mk0 (kS HB.out hb);(try clear hb);(try clear ho0))|((with_reducible refine gate_callee (f:=55) rfl ?_);refine gL (some 23) Try.func55 #[.slice A0 l0.length c0,.slice A1 l1.length c1,.int .i64 a2] ?_;(with_reducible refine (impl_parts.calls k _ _ l0 _ _ l1 a2 t447 _ ?side1 ?side2 ?side3 ?side4 A7.out).mono ?_);(case side1=>exact kC (Kd.C_below HR0.out HB.out));(case side2=>exact HC0.out);(case side3=>exact kC (Kd.C_below HR1.out HB.out));(case side4=>exact HC1.out);rintro e w10 ⟨v448,rfl,ho0,hb⟩;refine⟨_,rfl,?_⟩;have HO449:=mk0 (Kd.N_lower (Kd.N_mono (ok':=fun k_=>some k_ ≠ (v442:Value).ownBlock ∧ some k_ ≠ (v445:Value).ownBlock) ho0 (fun k_ hk_=>⟨(Kd.fresh' (Kd.R_lt (rR HO443.out)) k_ hk_),(Kd.fresh' (Kd.R_lt (rR HO446.out)) k_ hk_)⟩)) (kZ HB.out));replace HO443:=mk0 (bR HO443.out hb);replace HO446:=mk0 (bR HO446.out hb);replace HB:=mk0 (kS HB.out hb);(try clear hb);(try clear ho0);obtain⟨Ao11,co11,eo11⟩:=Kd.N_slice HO449.out;subst eo11))
 go_loopg [11,25] k (fun kq v11 v25 w'=>∃ (x11_1:List (S56)) (x25_1:Int),v25 = .int .i64 x25_1 ∧ Aside0 (impl_shareOf.l0 kq a3 x11_1 t441 t444 t447 (t447.length:Int) x25_1 = some r) ∧ Aside0 (kq ≤ k) ∧ Aside0 (Kd.R k56 56 w' w.heap.size (fun _=>True) v11 x11_1) ∧ Aside0 (Kd.R (Kd.int .i64) 3 w' w.heap.size (fun k_=>some k_ ≠ (v445:Value).ownBlock) v442 t441) ∧ Aside0 (Kd.R (Kd.int .i64) 3 w' w.heap.size (fun k_=>some k_ ≠ (v442:Value).ownBlock) v445 t444) ∧ Aside0 (Kd.N k48 48 w' w.heap.size (fun k_=>some k_ ≠ (v11:Value).ownBlock ∧ some k_ ≠ (v442:Value).ownBlock ∧ some k_ ≠ (v445:Value).ownBlock) (.slice Ao11 t447.length co11) t447) ∧ Aside0 (Below w.heap.size w w'))
 case atStart=>exact⟨(([]:List (S56))),(0),eS,H',⟨Nat.le_refl _⟩,⟨by first|exact Kd.R_nil _ _ _ _ _|exact Kd.N_nil _ _ _ _ _|exact Kd.V_nil _ _ _ _ _|exact Kd.Q_nil _ _ _ _ _|exact Kd.S_nil _ _ _ _ _⟩,⟨rR (Kd.R_mono HO443.out (fun _ hk=>hk.2))⟩,⟨rR (Kd.R_mono HO446.out (fun _ hk=>hk.2))⟩,⟨by (with_reducible repeat (first|apply aN|apply nN|apply dN));exact Kd.N_mono HO449.out (fun _ hk=>⟨(by simp [Value.ownBlock]),⟨hk.1,hk.2⟩⟩)⟩,⟨kB HB.out⟩⟩
 case round =>
  clear H'
  try clear c1
  try clear p2
  try clear c4
  try clear c5
  obtain⟨x11_1,x25_1,rfl,HA,HK1,HO_11,HO_17,HO_19,HO_23,HB⟩:=hrel
  cases gk with
  | zero=>exact absurd HA.out (by simp [impl_shareOf.l0])
  | succ k1 =>
   have H:=HA.out
   clear HA
   simp only [impl_shareOf.l0] at H
   by_cases c12:x25_1 < (t447.length:Int)
   rotate_left
   ·rw [if_neg c12] at H
    have c12b0:decide (x25_1 < (t447.length:Int)) = false:=decide_eq_false c12
    (try simp only [hl450_0] at c12b0)
    clear c12
    obtain rfl:=Option.some.inj H
    go_wp2
    go_ret
    exact⟨_,eR,rR HO_11.out,kB HB.out⟩
   rw [if_pos c12] at H
   have c12b0:decide (x25_1 < (t447.length:Int)) = true:=decide_eq_true c12
   (try simp only [hl450_0] at c12b0)
   clear c12
   by_cases c13:0 ≤ x25_1
   rotate_left
   ·rw [if_neg c13] at H
    exact nn H
   rw [if_pos c13] at H
   have c13b0:decide (0 ≤ x25_1) = true:=decide_eq_true c13
   clear c13
   by_cases c14:x25_1 < (t447.length:Int)
   rotate_left
   ·rw [if_neg c14] at H
    exact nn H
   rw [if_pos c14] at H
   have c14b0:decide (x25_1 < (t447.length:Int)) = true:=decide_eq_true c14
   (try simp only [hl450_0] at c14b0)
   clear c14
   by_cases c15:0 ≤ ((rd_T48 t447 x25_1).f1)
   rotate_left
   ·rw [if_neg c15] at H
    exact nn H
   rw [if_pos c15] at H
   have c15b0:=eq_true c15
   have c15b1:decide (0 ≤ ((rd_T48 t447 x25_1).f1)) = true:=decide_eq_true c15
   clear c15
   by_cases c16:((rd_T48 t447 x25_1).f1) ≤ ((rd_T48 t447 x25_1).f2)
   rotate_left
   ·rw [if_neg c16] at H
    exact nn H
   rw [if_pos c16] at H
   have c16b0:=eq_true c16
   have c16b1:decide (((rd_T48 t447 x25_1).f1) ≤ ((rd_T48 t447 x25_1).f2)) = true:=decide_eq_true c16
   clear c16
   by_cases c17:((rd_T48 t447 x25_1).f2) ≤ (t441.length:Int)
   rotate_left
   ·rw [if_neg c17] at H
    exact nn H
   rw [if_pos c17] at H
   have c17b0:=eq_true c17
   have c17b1:decide (((rd_T48 t447 x25_1).f2) ≤ (t441.length:Int)) = true:=decide_eq_true c17
   (try simp only [hl450_0] at c17b1)
   clear c17
   obtain⟨y452,hy452⟩:∃ y_:List Int,y_ = ((t441.take (((rd_T48 t447 x25_1).f2):Int).toNat).drop (((rd_T48 t447 x25_1).f1):Int).toNat):=⟨_,rfl⟩
   first|(with_reducible replace H:=yB hy452 H)|rw [← hy452] at H|skip
   have Ny452:=mk0 hy452
   clear hy452
   by_cases c18:0 ≤ ((rd_T48 t447 x25_1).f3)
   rotate_left
   ·rw [if_neg c18] at H
    exact nn H
   rw [if_pos c18] at H
   have c18b0:=eq_true c18
   have c18b1:decide (0 ≤ ((rd_T48 t447 x25_1).f3)) = true:=decide_eq_true c18
   clear c18
   by_cases c19:((rd_T48 t447 x25_1).f3) ≤ ((rd_T48 t447 x25_1).f4)
   rotate_left
   ·rw [if_neg c19] at H
    exact nn H
   rw [if_pos c19] at H
   have c19b0:=eq_true c19
   have c19b1:decide (((rd_T48 t447 x25_1).f3) ≤ ((rd_T48 t447 x25_1).f4)) = true:=decide_eq_true c19
   clear c19
   by_cases c20:((rd_T48 t447 x25_1).f4) ≤ (t444.length:Int)
   rotate_left
   ·rw [if_neg c20] at H
    exact nn H
   rw [if_pos c20] at H
   have c20b0:=eq_true c20
   have c20b1:decide (((rd_T48 t447 x25_1).f4) ≤ (t444.length:Int)) = true:=decide_eq_true c20
   (try simp only [hl450_0] at c20b1)
   clear c20
   obtain⟨y457,hy457⟩:∃ y_:List Int,y_ = ((t444.take (((rd_T48 t447 x25_1).f4):Int).toNat).drop (((rd_T48 t447 x25_1).f3):Int).toNat):=⟨_,rfl⟩
   first|(with_reducible replace H:=yB hy457 H)|rw [← hy457] at H|skip
   have Ny457:=mk0 hy457
   clear hy457
   replace H:=bE H
   obtain⟨t462,A21,H⟩:=H
   have H':=mk0 H
   clear H
   have p450:0 ≤ (x25_1:Int):=oD
   have q450:x25_1 < (t447.length:Int):=oD
   obtain⟨ad450,A450_0,c450_0,e450,hx450_0,hx450_1,hx450_2,hx450_3,hx450_4,hl450_0,hi450_0⟩:=at_T48 (Kd.N_reads' HO_23.out).2.2 x25_1 p450 q450
   cases e450
   obtain⟨ce450,hce450,hMe450,hcc450⟩:=Kd.N_get HO_23.out z48 x25_1 p450 (by first|exact q450|exact oD|(have e_:=(Kd.N_reads' HO_23.out).1;omega))
   obtain⟨ua450_0,uc450_0,rfl,ul450_0,ge450_0⟩:=k48_openF hMe450
   have hv450_0:=hcc450 0 _ rfl
   rw [Nat.add_zero] at hv450_0
   replace hv450_0:=Option.some.inj (hv450_0.symm.trans hx450_0)
   injection hv450_0 with hva_ hvn_ hvc_
   rw [hva_] at ge450_0
   rw [hvc_] at ul450_0
   have HL450_0:=mk0 (show Kd.V (Kd.int .u8) 5 _ w.heap.size _ _ ((rd_T48 t447 x25_1).f0) from Kd.V_mk ul450_0 ge450_0)
   clear hva_ hvn_ hvc_ ge450_0 ul450_0
   clear hcc450 hce450
   have HR450_0:=mk0 hi450_0
   have HC450_0:=mk0 hl450_0
   clear hi450_0 hl450_0
   replace p450:=eq_true p450
   replace q450:=eq_true q450
   try go_wp2_with (first|((with_reducible refine gate_dst (N:=13) rfl ?_);refine box_event ?hg (N:=13) ?hd (cs:=#[.slice none 0 0,.int .i64 0,.int .i64 0,.int .i64 0,.int .i64 0]) (t:=48) ?hr ?_;(case hd=>rfl);(case hg=>rfl);(case hr=>first|(go_simp;done)|(go_simp;rfl));intro gb451 hg w22 hbox hb;replace HO_11:=mk0 (bR HO_11.out hb);replace HO_17:=mk0 (bR HO_17.out hb);replace HO_19:=mk0 (bR HO_19.out hb);replace HO_23:=mk0 (Kd.N_below (Kd.N_elderB (rN HO_23.out) gb451 (Nat.le_of_eq hg.symm)) hb);replace HR450_0:=mk0 (Kd.C_below (by repeat (first|(with_reducible exact HR450_0.out)|(with_reducible first|apply aC|apply nC|apply dC)|exact HR450_0.out|exact (Kd.V_reads' HL450_0.out).2.2)) hb);replace HL450_0:=mk0 (Kd.V_below (Kd.V_elderB (rV HL450_0.out) gb451 (Nat.le_of_eq hg.symm)) hb);have BK451:=mk0 (hbox);have GW451:=mk0 ((by rw [hg];exact (kZ HB.out):w.heap.size ≤ gb451));have GE451:=mk0 ((by rw [hg];exact (kZ HB.out):w.heap.size ≤ gb451));replace HB:=mk0 (kS HB.out hb);clear hb hbox hg;obtain⟨hcz23_0,hcz23_1,hcz23_2,hcz23_3,hcz23_4,hfz23_0,hfz23_1,hfz23_2,hfz23_3,hfz23_4⟩:=cz5 BK451.out))
   have n0_:Aside0 (Kd.R k56 56 (((((w22.setCell ⟨gb451,0,none⟩ (.slice A450_0 ((rd_T48 t447 x25_1).f0).length c450_0)).setCell ⟨gb451,1,none⟩ (.int .i64 ((rd_T48 t447 x25_1).f1))).setCell ⟨gb451,2,none⟩ (.int .i64 ((rd_T48 t447 x25_1).f2))).setCell ⟨gb451,3,none⟩ (.int .i64 ((rd_T48 t447 x25_1).f3))).setCell ⟨gb451,4,none⟩ (.int .i64 ((rd_T48 t447 x25_1).f4))) w.heap.size (fun _=>True) u11 x11_1):=⟨by (with_reducible repeat (first|apply aR|apply nR|apply dR));exact Kd.R_mono (Kd.R_far (p:=⟨gb451,4,none⟩) (Kd.R_far (p:=⟨gb451,3,none⟩) (Kd.R_far (p:=⟨gb451,2,none⟩) (Kd.R_far (p:=⟨gb451,1,none⟩) (Kd.R_far (p:=⟨gb451,0,none⟩) (Kd.R_types HO_11.out BK451.out (by decide)) (fun _ hk=>hk.2) (.slice A450_0 ((rd_T48 t447 x25_1).f0).length c450_0)) (fun _ hk=>hk.2) (.int .i64 ((rd_T48 t447 x25_1).f1))) (fun _ hk=>hk.2) (.int .i64 ((rd_T48 t447 x25_1).f2))) (fun _ hk=>hk.2) (.int .i64 ((rd_T48 t447 x25_1).f3))) (fun _ hk=>hk.2) (.int .i64 ((rd_T48 t447 x25_1).f4))) (fun _ hk=>trivial)⟩
   have n1_:Aside0 (Kd.R (Kd.int .i64) 3 (((((w22.setCell ⟨gb451,0,none⟩ (.slice A450_0 ((rd_T48 t447 x25_1).f0).length c450_0)).setCell ⟨gb451,1,none⟩ (.int .i64 ((rd_T48 t447 x25_1).f1))).setCell ⟨gb451,2,none⟩ (.int .i64 ((rd_T48 t447 x25_1).f2))).setCell ⟨gb451,3,none⟩ (.int .i64 ((rd_T48 t447 x25_1).f3))).setCell ⟨gb451,4,none⟩ (.int .i64 ((rd_T48 t447 x25_1).f4))) w.heap.size (fun k_=>some k_ ≠ (v445:Value).ownBlock) v442 t441):=⟨by (with_reducible repeat (first|apply aR|apply nR|apply dR));exact Kd.R_mono (Kd.R_far (p:=⟨gb451,4,none⟩) (Kd.R_far (p:=⟨gb451,3,none⟩) (Kd.R_far (p:=⟨gb451,2,none⟩) (Kd.R_far (p:=⟨gb451,1,none⟩) (Kd.R_far (p:=⟨gb451,0,none⟩) (Kd.R_types HO_17.out BK451.out (by decide)) (fun _ hk=>hk.2) (.slice A450_0 ((rd_T48 t447 x25_1).f0).length c450_0)) (fun _ hk=>hk.2) (.int .i64 ((rd_T48 t447 x25_1).f1))) (fun _ hk=>hk.2) (.int .i64 ((rd_T48 t447 x25_1).f2))) (fun _ hk=>hk.2) (.int .i64 ((rd_T48 t447 x25_1).f3))) (fun _ hk=>hk.2) (.int .i64 ((rd_T48 t447 x25_1).f4))) (fun _ hk=>hk.1)⟩
   have n2_:Aside0 (Kd.R (Kd.int .i64) 3 (((((w22.setCell ⟨gb451,0,none⟩ (.slice A450_0 ((rd_T48 t447 x25_1).f0).length c450_0)).setCell ⟨gb451,1,none⟩ (.int .i64 ((rd_T48 t447 x25_1).f1))).setCell ⟨gb451,2,none⟩ (.int .i64 ((rd_T48 t447 x25_1).f2))).setCell ⟨gb451,3,none⟩ (.int .i64 ((rd_T48 t447 x25_1).f3))).setCell ⟨gb451,4,none⟩ (.int .i64 ((rd_T48 t447 x25_1).f4))) w.heap.size (fun k_=>some k_ ≠ (v442:Value).ownBlock) v445 t444):=⟨by (with_reducible repeat (first|apply aR|apply nR|apply dR));exact Kd.R_mono (Kd.R_far (p:=⟨gb451,4,none⟩) (Kd.R_far (p:=⟨gb451,3,none⟩) (Kd.R_far (p:=⟨gb451,2,none⟩) (Kd.R_far (p:=⟨gb451,1,none⟩) (Kd.R_far (p:=⟨gb451,0,none⟩) (Kd.R_types HO_19.out BK451.out (by decide)) (fun _ hk=>hk.2) (.slice A450_0 ((rd_T48 t447 x25_1).f0).length c450_0)) (fun _ hk=>hk.2) (.int .i64 ((rd_T48 t447 x25_1).f1))) (fun _ hk=>hk.2) (.int .i64 ((rd_T48 t447 x25_1).f2))) (fun _ hk=>hk.2) (.int .i64 ((rd_T48 t447 x25_1).f3))) (fun _ hk=>hk.2) (.int .i64 ((rd_T48 t447 x25_1).f4))) (fun _ hk=>hk.1)⟩
   have n3_:Aside0 (Kd.N k48 48 (((((w22.setCell ⟨gb451,0,none⟩ (.slice A450_0 ((rd_T48 t447 x25_1).f0).length c450_0)).setCell ⟨gb451,1,none⟩ (.int .i64 ((rd_T48 t447 x25_1).f1))).setCell ⟨gb451,2,none⟩ (.int .i64 ((rd_T48 t447 x25_1).f2))).setCell ⟨gb451,3,none⟩ (.int .i64 ((rd_T48 t447 x25_1).f3))).setCell ⟨gb451,4,none⟩ (.int .i64 ((rd_T48 t447 x25_1).f4))) w.heap.size (fun k_=>some k_ ≠ (u11:Value).ownBlock ∧ some k_ ≠ (v442:Value).ownBlock ∧ some k_ ≠ (v445:Value).ownBlock ∧ k_ ≠ gb451) (.slice (some ad450) t447.length co11) t447):=⟨by (with_reducible repeat (first|apply aN|apply nN|apply dN));exact Kd.N_mono (Kd.N_far (p:=⟨gb451,4,none⟩) (Kd.N_far (p:=⟨gb451,3,none⟩) (Kd.N_far (p:=⟨gb451,2,none⟩) (Kd.N_far (p:=⟨gb451,1,none⟩) (Kd.N_far (p:=⟨gb451,0,none⟩) (Kd.N_mono HO_23.out (fun k_ hk=>(⟨hk,hk.2⟩:_ ∧ k_ ≠ gb451))) (fun _ hk=>hk.2) (.slice A450_0 ((rd_T48 t447 x25_1).f0).length c450_0)) (fun _ hk=>hk.2) (.int .i64 ((rd_T48 t447 x25_1).f1))) (fun _ hk=>hk.2) (.int .i64 ((rd_T48 t447 x25_1).f2))) (fun _ hk=>hk.2) (.int .i64 ((rd_T48 t447 x25_1).f3))) (fun _ hk=>hk.2) (.int .i64 ((rd_T48 t447 x25_1).f4))) (fun _ hk=>⟨hk.1.1.1,⟨hk.1.1.2.1,⟨hk.1.1.2.2,hk.1.2⟩⟩⟩)⟩
   have n4_:Aside0 (Kd.V (Kd.int .u8) 5 (((((w22.setCell ⟨gb451,0,none⟩ (.slice A450_0 ((rd_T48 t447 x25_1).f0).length c450_0)).setCell ⟨gb451,1,none⟩ (.int .i64 ((rd_T48 t447 x25_1).f1))).setCell ⟨gb451,2,none⟩ (.int .i64 ((rd_T48 t447 x25_1).f2))).setCell ⟨gb451,3,none⟩ (.int .i64 ((rd_T48 t447 x25_1).f3))).setCell ⟨gb451,4,none⟩ (.int .i64 ((rd_T48 t447 x25_1).f4))) w.heap.size (fun k_=>some k_ ≠ (u11:Value).ownBlock ∧ some k_ ≠ (v442:Value).ownBlock ∧ some k_ ≠ (v445:Value).ownBlock ∧ some k_ ≠ (.slice (some ad450) t447.length co11:Value).ownBlock ∧ k_ ≠ gb451) (.slice A450_0 ((rd_T48 t447 x25_1).f0).length c450_0) ((rd_T48 t447 x25_1).f0)):=⟨by (with_reducible repeat (first|apply aV|apply nV|apply dV));exact Kd.V_mono (Kd.V_far (p:=⟨gb451,4,none⟩) (Kd.V_far (p:=⟨gb451,3,none⟩) (Kd.V_far (p:=⟨gb451,2,none⟩) (Kd.V_far (p:=⟨gb451,1,none⟩) (Kd.V_far (p:=⟨gb451,0,none⟩) (Kd.V_mono HL450_0.out (fun k_ hk=>(⟨hk,hk.2⟩:_ ∧ k_ ≠ gb451))) (fun _ hk=>hk.2) (.slice A450_0 ((rd_T48 t447 x25_1).f0).length c450_0)) (fun _ hk=>hk.2) (.int .i64 ((rd_T48 t447 x25_1).f1))) (fun _ hk=>hk.2) (.int .i64 ((rd_T48 t447 x25_1).f2))) (fun _ hk=>hk.2) (.int .i64 ((rd_T48 t447 x25_1).f3))) (fun _ hk=>hk.2) (.int .i64 ((rd_T48 t447 x25_1).f4))) (fun _ hk=>⟨hk.1.1.1.1,⟨hk.1.1.1.2.1,⟨hk.1.1.1.2.2,⟨hk.1.1.2,hk.1.2⟩⟩⟩⟩)⟩
   have n5_:Aside0 ((((((w22.setCell ⟨gb451,0,none⟩ (.slice A450_0 ((rd_T48 t447 x25_1).f0).length c450_0)).setCell ⟨gb451,1,none⟩ (.int .i64 ((rd_T48 t447 x25_1).f1))).setCell ⟨gb451,2,none⟩ (.int .i64 ((rd_T48 t447 x25_1).f2))).setCell ⟨gb451,3,none⟩ (.int .i64 ((rd_T48 t447 x25_1).f3))).setCell ⟨gb451,4,none⟩ (.int .i64 ((rd_T48 t447 x25_1).f4))).heap[gb451]? = some (.cells #[.slice A450_0 ((rd_T48 t447 x25_1).f0).length c450_0,.int .i64 ((rd_T48 t447 x25_1).f1),.int .i64 ((rd_T48 t447 x25_1).f2),.int .i64 ((rd_T48 t447 x25_1).f3),.int .i64 ((rd_T48 t447 x25_1).f4)] 48 (0,0))):=⟨by (with_reducible repeat (first|apply nB|apply dB|apply aB));refine blk_put (cs:=#[.slice A450_0 ((rd_T48 t447 x25_1).f0).length c450_0,.int .i64 ((rd_T48 t447 x25_1).f1),.int .i64 ((rd_T48 t447 x25_1).f2),.int .i64 ((rd_T48 t447 x25_1).f3),.int .i64 0]) ?_ 4 _ rfl;(with_reducible repeat (first|apply nB|apply dB|apply aB));refine blk_put (cs:=#[.slice A450_0 ((rd_T48 t447 x25_1).f0).length c450_0,.int .i64 ((rd_T48 t447 x25_1).f1),.int .i64 ((rd_T48 t447 x25_1).f2),.int .i64 0,.int .i64 0]) ?_ 3 _ rfl;(with_reducible repeat (first|apply nB|apply dB|apply aB));refine blk_put (cs:=#[.slice A450_0 ((rd_T48 t447 x25_1).f0).length c450_0,.int .i64 ((rd_T48 t447 x25_1).f1),.int .i64 0,.int .i64 0,.int .i64 0]) ?_ 2 _ rfl;(with_reducible repeat (first|apply nB|apply dB|apply aB));refine blk_put (cs:=#[.slice A450_0 ((rd_T48 t447 x25_1).f0).length c450_0,.int .i64 0,.int .i64 0,.int .i64 0,.int .i64 0]) ?_ 1 _ rfl;(with_reducible repeat (first|apply nB|apply dB|apply aB));refine blk_put (cs:=#[.slice none 0 0,.int .i64 0,.int .i64 0,.int .i64 0,.int .i64 0]) ?_ 0 _ rfl;(with_reducible repeat (first|apply nB|apply dB|apply aB));exact BK451.out⟩
   have n6_:Aside0 (Below w.heap.size w (((((w22.setCell ⟨gb451,0,none⟩ (.slice A450_0 ((rd_T48 t447 x25_1).f0).length c450_0)).setCell ⟨gb451,1,none⟩ (.int .i64 ((rd_T48 t447 x25_1).f1))).setCell ⟨gb451,2,none⟩ (.int .i64 ((rd_T48 t447 x25_1).f2))).setCell ⟨gb451,3,none⟩ (.int .i64 ((rd_T48 t447 x25_1).f3))).setCell ⟨gb451,4,none⟩ (.int .i64 ((rd_T48 t447 x25_1).f4)))):=⟨kB HB.out⟩
   (try clear HO_11)
   (try clear HO_17)
   (try clear HO_19)
   (try clear HO_23)
   (try clear HL450_0)
   (try clear BK451)
   (try clear HB)
   generalize (((((w22.setCell ⟨gb451,0,none⟩ (.slice A450_0 ((rd_T48 t447 x25_1).f0).length c450_0)).setCell ⟨gb451,1,none⟩ (.int .i64 ((rd_T48 t447 x25_1).f1))).setCell ⟨gb451,2,none⟩ (.int .i64 ((rd_T48 t447 x25_1).f2))).setCell ⟨gb451,3,none⟩ (.int .i64 ((rd_T48 t447 x25_1).f3))).setCell ⟨gb451,4,none⟩ (.int .i64 ((rd_T48 t447 x25_1).f4))) = w24 at n0_ n1_ n2_ n3_ n4_ n5_ n6_ ⊢
   have HO_11:=n0_
   have HO_17:=n1_
   have HO_19:=n2_
   have HO_23:=n3_
   have HL450_0:=n4_
   have BK451:=n5_
   have HB:=n6_
   clear n0_ n1_ n2_ n3_ n4_ n5_ n6_
   replace HO_11:=mk0 (dR HO_11.out)
   replace HO_17:=mk0 (dR HO_17.out)
   replace HO_19:=mk0 (dR HO_19.out)
   replace HO_23:=mk0 (dN HO_23.out)
   replace HL450_0:=mk0 (dV HL450_0.out)
   replace BK451:=mk0 (dB BK451.out)
   replace HB:=mk0 (dZ HB.out)
   obtain⟨Ao27,co27,eo27⟩:=Kd.R_slice HO_17.out
   (first|subst eo27|(injection eo27 with f1_ f2_ f3_;have f4_:=f1_.symm;have f5_:=f3_.symm;clear f1_ f2_ f3_;subst f4_;subst f5_))
   have q26:(((rd_T48 t447 x25_1).f2):Int) ≤ ((t441.length:Int):Int):=oD
   obtain⟨i026,hi026,_,hsz26,_⟩:=info_parts info3
   have hroom26:t441.length ≤ co27:=(Kd.R_reads' HO_17.out).2.1
   have hC26:Kd.F (Kd.int .i64) _ _ Ao27 t441.length t441:=(Kd.V_at (base:=w.heap.size) (Kd.R_V (Kd.R_types (Kd.R_apart' (Kd.R_apart' (HO_17.out) (Kd.R_typed HO_11.out) (by decide)) (Kd.N_typed HO_23.out) (by decide)) BK451.out (by decide)))).2.2
   have ql26:(((rd_T48 t447 x25_1).f1):Int) ≤ (((rd_T48 t447 x25_1).f2):Int):=oD
   have q026:(0:Int) ≤ (((rd_T48 t447 x25_1).f1):Int):=oD
   have hcut26:=cut_mid (P:=Try.prog) 45 3 .i64 .i64 Try.underlying45 hi026 1 hsz26 Ao27 t441.length co27 ((rd_T48 t447 x25_1).f1) ((rd_T48 t447 x25_1).f2) q026 ql26 q26 hroom26
   have hr26:=Kd.F_mid (lo:=(((rd_T48 t447 x25_1).f1):Int).toNat) (hi:=(((rd_T48 t447 x25_1).f2):Int).toNat) (c:=co27) hC26 (by omega) (by omega) hroom26
   obtain⟨A26,hA26⟩:∃ A1,A1 = (if co27 = (((rd_T48 t447 x25_1).f1):Int).toNat then Ao27 else (Ao27:Option Addr).map (·.add ((((rd_T48 t447 x25_1).f1):Int).toNat * 1))):=⟨_,rfl⟩
   obtain⟨c26,hc26⟩:∃ c1,c1 = co27 - (((rd_T48 t447 x25_1).f1):Int).toNat:=⟨_,rfl⟩
   have hy26:y452.length = (((rd_T48 t447 x25_1).f2):Int).toNat - (((rd_T48 t447 x25_1).f1):Int).toNat:=(by rw [Ny452.out,List.length_drop,List.length_take] <;> omega)
   rw [show ((t441).take (((rd_T48 t447 x25_1).f2):Int).toNat).drop (((rd_T48 t447 x25_1).f1):Int).toNat = y452 from Ny452.out.symm] at hr26
   replace hr26:Kd.F (Kd.int .i64) _ _ A26 y452.length y452:=(by rw [hA26];exact hr26)
   rw [← hy26, ← hA26, ← hc26] at hcut26
   have HO456:=mk0 (show Kd.V (Kd.int .i64) 3 _ w.heap.size _ (.slice A26 y452.length c26) y452 from Kd.V_mk (by rw [hy26,hc26];exact Nat.sub_le_sub_right (Nat.le_trans (by omega) hroom26) _) hr26)
   have HC456:=mk0 (show y452.length ≤ c26 from by rw [hy26,hc26];exact Nat.sub_le_sub_right (Nat.le_trans (by omega) hroom26) _)
   clear hr26 hC26 hroom26 hi026 hsz26 hc26
   have KY26:=mk0 hy26
   have KA26:=mk0 hA26
   clear hy26 hA26
   replace q26:=eq_true q26
   obtain⟨Ao29,co29,eo29⟩:=Kd.R_slice HO_19.out
   (first|subst eo29|(injection eo29 with f1_ f2_ f3_;have f4_:=f1_.symm;have f5_:=f3_.symm;clear f1_ f2_ f3_;subst f4_;subst f5_))
   have q28:(((rd_T48 t447 x25_1).f4):Int) ≤ ((t444.length:Int):Int):=oD
   obtain⟨i028,hi028,_,hsz28,_⟩:=info_parts info3
   have hroom28:t444.length ≤ co29:=(Kd.R_reads' HO_19.out).2.1
   have hC28:Kd.F (Kd.int .i64) _ _ Ao29 t444.length t444:=(Kd.V_at (base:=w.heap.size) (Kd.R_V (Kd.R_types (Kd.R_apart' (Kd.R_apart' (HO_19.out) (Kd.R_typed HO_11.out) (by decide)) (Kd.N_typed HO_23.out) (by decide)) BK451.out (by decide)))).2.2
   have ql28:(((rd_T48 t447 x25_1).f3):Int) ≤ (((rd_T48 t447 x25_1).f4):Int):=oD
   have q028:(0:Int) ≤ (((rd_T48 t447 x25_1).f3):Int):=oD
   have hcut28:=cut_mid (P:=Try.prog) 45 3 .i64 .i64 Try.underlying45 hi028 1 hsz28 Ao29 t444.length co29 ((rd_T48 t447 x25_1).f3) ((rd_T48 t447 x25_1).f4) q028 ql28 q28 hroom28
   have hr28:=Kd.F_mid (lo:=(((rd_T48 t447 x25_1).f3):Int).toNat) (hi:=(((rd_T48 t447 x25_1).f4):Int).toNat) (c:=co29) hC28 (by omega) (by omega) hroom28
   obtain⟨A28,hA28⟩:∃ A1,A1 = (if co29 = (((rd_T48 t447 x25_1).f3):Int).toNat then Ao29 else (Ao29:Option Addr).map (·.add ((((rd_T48 t447 x25_1).f3):Int).toNat * 1))):=⟨_,rfl⟩
   obtain⟨c28,hc28⟩:∃ c1,c1 = co29 - (((rd_T48 t447 x25_1).f3):Int).toNat:=⟨_,rfl⟩
   have hy28:y457.length = (((rd_T48 t447 x25_1).f4):Int).toNat - (((rd_T48 t447 x25_1).f3):Int).toNat:=(by rw [Ny457.out,List.length_drop,List.length_take] <;> omega)
   rw [show ((t444).take (((rd_T48 t447 x25_1).f4):Int).toNat).drop (((rd_T48 t447 x25_1).f3):Int).toNat = y457 from Ny457.out.symm] at hr28
   replace hr28:Kd.F (Kd.int .i64) _ _ A28 y457.length y457:=(by rw [hA28];exact hr28)
   rw [← hy28, ← hA28, ← hc28] at hcut28
   have HO461:=mk0 (show Kd.V (Kd.int .i64) 3 _ w.heap.size _ (.slice A28 y457.length c28) y457 from Kd.V_mk (by rw [hy28,hc28];exact Nat.sub_le_sub_right (Nat.le_trans (by omega) hroom28) _) hr28)
   have HC461:=mk0 (show y457.length ≤ c28 from by rw [hy28,hc28];exact Nat.sub_le_sub_right (Nat.le_trans (by omega) hroom28) _)
   clear hr28 hC28 hroom28 hi028 hsz28 hc28
   have KY28:=mk0 hy28
   have KA28:=mk0 hA28
   clear hy28 hA28
   replace q28:=eq_true q28
   refine start_ (n:=16) (S:=fun w'=>w'.cell? ⟨gb451,0,none⟩ = some (.slice A450_0 ((rd_T48 t447 x25_1).f0).length c450_0) ∧ w'.cell? ⟨gb451,1,none⟩ = some (.int .i64 ((rd_T48 t447 x25_1).f1)) ∧ w'.cell? ⟨gb451,2,none⟩ = some (.int .i64 ((rd_T48 t447 x25_1).f2)) ∧ w'.cell? ⟨gb451,3,none⟩ = some (.int .i64 ((rd_T48 t447 x25_1).f3)) ∧ w'.cell? ⟨gb451,4,none⟩ = some (.int .i64 ((rd_T48 t447 x25_1).f4))) (ds:=[]) (bm 16 0) (by kernel_rfl) rfl (by kernel_rfl) (ck5 BK451.out) (fun hHeld=>?_);refine with_tabW impl_shareOf.tab6 impl_shareOf.bits6 (fun HT_ HW_=>?_)
   generalize w24.drew = w25 at HO_11 HO_17 HO_19 HO_23 HL450_0 BK451 HB HO456 HO461 hHeld ⊢
   refine pU 0 (some 29) (bm 16 1) HT_ ?_
   refine pU 1 (some 30) (bm 16 3) HT_ ?_
   refine pU 3 (some 32) (bm 16 11) HT_ ?_
   refine pU 6 (some 35) (bm 16 75) HT_ ?_
   refine pU 7 (some 36) (bm 16 203) HT_ ?_
   refine pU 9 (some 38) (bm 16 715) HT_ ?_
   refine pU 12 (some 41) (bm 16 4811) HT_ ?_
   refine pU 15 (some 44) (bm 16 37579) HT_ ?_
   refine pT 2 (some 31) (bm 16 37583) HT_ HW_ hHeld ?_
   refine pT 4 (some 33) (bm 16 37599) HT_ HW_ hHeld ?_
   refine pU 5 (some 34) (bm 16 37631) HT_ ?_
   refine pT 8 (some 37) (bm 16 37887) HT_ HW_ hHeld ?_
   refine pT 10 (some 39) (bm 16 38911) HT_ HW_ hHeld ?_
   refine pU 11 (some 40) (bm 16 40959) HT_ ?_
   refine pO 13 (some 42) (bm 16 49151) HT_ (fun K hK=>?_)
   refine gO Try.func65 #[.slice A26 y452.length c26,.slice A28 y457.length c28,.int .i64 a3] ?_
   with_reducible refine (impl_CommonWithin.calls k1 _ _ y452 _ _ y457 a3 t462 _ ?side1 ?side2 ?side3 ?side4 A21.out).mono ?_
   (case side1=>exact kC (Kd.V_reads' HO456.out).2.2)
   (case side2=>exact (Kd.V_reads' HO456.out).2.1)
   (case side3=>exact kC (Kd.V_reads' HO461.out).2.2)
   (case side4=>exact (Kd.V_reads' HO461.out).2.1)
   rintro e w30 ⟨v463,rfl,ho0,hb⟩
   refine⟨_,rfl,?_⟩
   replace HO_17:=mk0 (bR HO_17.out hb)
   replace HO_19:=mk0 (bR HO_19.out hb)
   replace HO_23:=mk0 (Kd.N_elder' (rN HO_23.out) (Kd.R_base ho0) hb)
   replace HL450_0:=mk0 (Kd.V_elder' (rV HL450_0.out) (Kd.R_base ho0) hb)
   replace HO456:=mk0 (Kd.V_elder' (rV HO456.out) (Kd.R_base ho0) hb)
   replace HO461:=mk0 (Kd.V_elder' (rV HO461.out) (Kd.R_base ho0) hb)
   have HO464:=mk0 (Kd.R_lower (Kd.R_new' ho0 (Kd.R_lt (rR HO_11.out))) (kZ HB.out))
   replace HO_11:=mk0 (Kd.R_elder' (rR HO_11.out) (Kd.R_base ho0) hb)
   replace BK451:=mk0 (kK BK451.out hb)
   replace HB:=mk0 (kS HB.out hb)
   (try clear hb)
   (try clear ho0)
   obtain⟨Ao31,co31,eo31⟩:=Kd.R_slice HO464.out
   (first|subst eo31|(injection eo31 with f1_ f2_ f3_;have f4_:=f1_.symm;have f5_:=f3_.symm;clear f1_ f2_ f3_;subst f4_;subst f5_))
   refine hK.out _ _ (ck5 BK451.out) (fun hHeld=>?_)
   clear hK K
   refine pN (some 42) ?_
   refine pU 14 (some 43) (bm 16 65535) HT_ ?_
   refine pD HT_ ?_
   try go_wp2
   go_loopg [11,44] k1 (fun kq v11 v44 w'=>∃ (x11_2:List (S56)) (x44_2:Int),v44 = .int .i64 x44_2 ∧ Aside0 (impl_shareOf.l1 kq a3 x11_2 t441 t444 t447 (t447.length:Int) x25_1 t462 (t462.length:Int) x44_2 ((rd_T48 t447 x25_1).f0) ((rd_T48 t447 x25_1).f1) ((rd_T48 t447 x25_1).f2) ((rd_T48 t447 x25_1).f3) ((rd_T48 t447 x25_1).f4) = some r) ∧ Aside0 (kq ≤ k1) ∧ Aside0 (Kd.R k56 56 w' w.heap.size (fun k_=>some k_ ≠ ((.slice Ao31 t462.length co31):Value).ownBlock) v11 x11_2) ∧ Aside0 (Kd.R (Kd.int .i64) 3 w' w.heap.size (fun k_=>some k_ ≠ ((.slice Ao29 t444.length co29):Value).ownBlock) (.slice Ao27 t441.length co27) t441) ∧ Aside0 (Kd.R (Kd.int .i64) 3 w' w.heap.size (fun k_=>some k_ ≠ ((.slice Ao27 t441.length co27):Value).ownBlock) (.slice Ao29 t444.length co29) t444) ∧ Aside0 (Kd.N k48 48 w' w.heap.size (fun k_=>some k_ ≠ (v11:Value).ownBlock ∧ some k_ ≠ ((.slice Ao27 t441.length co27):Value).ownBlock ∧ some k_ ≠ ((.slice Ao29 t444.length co29):Value).ownBlock ∧ some k_ ≠ ((.slice Ao31 t462.length co31):Value).ownBlock ∧ k_ ≠ gb451) (.slice (some ad450) t447.length co11) t447) ∧ Aside0 (Kd.R k56 56 w' w.heap.size (fun k_=>some k_ ≠ (v11:Value).ownBlock) (.slice Ao31 t462.length co31) t462) ∧ Aside0 (w'.heap[gb451]? = some (.cells #[(.slice A450_0 ((rd_T48 t447 x25_1).f0).length c450_0),.int .i64 ((rd_T48 t447 x25_1).f1),.int .i64 ((rd_T48 t447 x25_1).f2),.int .i64 ((rd_T48 t447 x25_1).f3),.int .i64 ((rd_T48 t447 x25_1).f4)] 48 (0,0))) ∧ Aside0 (Below w.heap.size w w'))
   case atStart=>exact⟨(x11_1),(0),eS,H',⟨Nat.le_refl _⟩,⟨rR (Kd.R_mono HO_11.out (fun _ hk=>hk.2))⟩,⟨rR HO_17.out⟩,⟨rR HO_19.out⟩,⟨rN (Kd.N_mono HO_23.out (fun _ hk=>⟨hk.1.1,⟨hk.1.2.1,⟨hk.1.2.2.1,⟨hk.2,hk.1.2.2.2⟩⟩⟩⟩))⟩,⟨rR (Kd.R_mono HO464.out (fun _ hk=>hk.2))⟩,⟨kN BK451.out⟩,⟨kB HB.out⟩⟩
   case round =>
    clear H'
    try clear c1
    try clear c2
    try clear p2
    try clear q2
    try clear c4
    try clear p4
    try clear q4
    try clear hx4
    try clear c5
    try clear c6
    try clear c12
    try clear c12b0
    try clear c13
    try clear c13b0
    try clear c14
    try clear c14b0
    try clear c15
    try clear c15b0
    try clear c15b1
    try clear c16
    try clear c16b0
    try clear c16b1
    try clear c17
    try clear c17b0
    try clear c17b1
    try clear c18
    try clear c18b0
    try clear c18b1
    try clear c19
    try clear c19b0
    try clear c19b1
    try clear c20
    try clear c20b0
    try clear c20b1
    try clear c26
    try clear q26
    try clear c28
    try clear q28
    try clear hcz23_0
    try clear hcz23_1
    try clear hcz23_2
    try clear hcz23_3
    try clear hcz23_4
    try clear hfz23_0
    try clear hfz23_1
    try clear hfz23_2
    try clear hfz23_3
    try clear hfz23_4
    try clear hx450_0
    try clear hx450_1
    try clear hx450_2
    try clear hx450_3
    try clear hx450_4
    try clear p2
    try clear p450
    try clear q026
    try clear q028
    try clear q26
    try clear q28
    try clear q450
    obtain⟨x11_2,x44_2,rfl,HA,HK2,HO_11,HO_17,HO_19,HO_23,HO_42,BK451,HB⟩:=hrel
    cases gk with
    | zero=>exact absurd HA.out (by simp [impl_shareOf.l1])
    | succ k2 =>
     have H:=HA.out
     clear HA
     simp only [impl_shareOf.l1] at H
     by_cases c32:x44_2 < (t462.length:Int)
     rotate_left
     ·rw [if_neg c32] at H
      have c32b0:decide (x44_2 < (t462.length:Int)) = false:=decide_eq_false c32
      (try simp only [hl450_0] at c32b0)
      clear c32
      have H':=mk0 H
      clear H
      go_wp2
      go_roundg k2
      case measure=>have:=HK1.out;have:=HK2.out;omega
      case rel=>exact⟨(x11_2),(wrap64 (x25_1 + 1)),eS,H',⟨by have:=HK1.out;have:=HK2.out;omega⟩,⟨rR (Kd.R_mono HO_11.out (fun _ hk=>trivial))⟩,⟨rR HO_17.out⟩,⟨rR HO_19.out⟩,⟨rN (Kd.N_mono HO_23.out (fun _ hk=>⟨hk.1,⟨hk.2.1,hk.2.2.1⟩⟩))⟩,⟨kB HB.out⟩⟩
     rw [if_pos c32] at H
     have c32b0:decide (x44_2 < (t462.length:Int)) = true:=decide_eq_true c32
     (try simp only [hl450_0] at c32b0)
     clear c32
     by_cases c33:0 ≤ x44_2
     rotate_left
     ·rw [if_neg c33] at H
      exact nn H
     rw [if_pos c33] at H
     have c33b0:decide (0 ≤ x44_2) = true:=decide_eq_true c33
     clear c33
     by_cases c34:x44_2 < (t462.length:Int)
     rotate_left
     ·rw [if_neg c34] at H
      exact nn H
     rw [if_pos c34] at H
     have c34b0:decide (x44_2 < (t462.length:Int)) = true:=decide_eq_true c34
     (try simp only [hl450_0] at c34b0)
     clear c34
     by_cases c35:x11_2.length < 8796093022208
     rotate_left
     ·rw [if_neg c35] at H
      exact nn H
     rw [if_pos c35] at H
     have LMc35:=mk0 c35
     clear c35
     obtain⟨y467,hy467⟩:∃ y_:List (S56),y_ = (x11_2 ++ [(⟨wrap64 (((rd_T56 t462 x44_2).f0) + ((rd_T48 t447 x25_1).f1)),wrap64 (((rd_T56 t462 x44_2).f1) + ((rd_T48 t447 x25_1).f3))⟩:S56)]):=⟨_,rfl⟩
     first|(with_reducible replace H:=yB hy467 H)|rw [← hy467] at H|skip
     have Ny467:=mk0 hy467
     clear hy467
     have H':=mk0 H
     clear H
     have p465:0 ≤ (x44_2:Int):=oD
     have q465:x44_2 < (t462.length:Int):=oD
     obtain⟨ad465,e465,hx465_0,hx465_1⟩:=at_T56 (Kd.R_reads' HO_42.out).2.2 x44_2 p465 q465
     cases e465
     replace p465:=eq_true p465
     replace q465:=eq_true q465
     go_wp2_with (first|((with_reducible refine gate_dst (N:=15) rfl ?_);refine box_event ?hg (N:=15) ?hd (cs:=#[.int .i64 0,.int .i64 0]) (t:=56) ?hr ?_;(case hd=>rfl);(case hg=>rfl);(case hr=>first|(go_simp;done)|(go_simp;rfl));intro gb466 hg w36 hbox hb;replace HO_11:=mk0 (Kd.R_below (Kd.R_elderB (rR HO_11.out) gb466 (Nat.le_of_eq hg.symm)) hb);replace HO_17:=mk0 (bR HO_17.out hb);replace HO_19:=mk0 (bR HO_19.out hb);replace HO_23:=mk0 (Kd.N_below (Kd.N_elderB (rN HO_23.out) gb466 (Nat.le_of_eq hg.symm)) hb);replace HO_42:=mk0 (Kd.R_below (Kd.R_elderB (rR HO_42.out) gb466 (Nat.le_of_eq hg.symm)) hb);have BK466:=mk0 (hbox);have GW466:=mk0 ((by rw [hg];exact (kZ HB.out):w.heap.size ≤ gb466));have GE466:=mk0 ((by rw [hg];exact (kZ HB.out):w.heap.size ≤ gb466));replace HB:=mk0 (kS HB.out hb);have NB451_466:=mk0 ((by rw [hg];exact Nat.ne_of_lt (kL BK451.out):gb451 ≠ gb466));have NB466_451:=mk0 ((by rw [hg];exact Nat.ne_of_gt (kL BK451.out):gb466 ≠ gb451));replace BK451:=mk0 (kK BK451.out hb);clear hb hbox hg;have hnb37:=NB466_451.out;have hnc37:=NB451_466.out;obtain⟨hcz38_0,hcz38_1,hfz38_0,hfz38_1⟩:=cz2 BK466.out;obtain⟨hcz39_0,hcz39_1,hcz39_2,hcz39_3,hcz39_4,hfz39_0,hfz39_1,hfz39_2,hfz39_3,hfz39_4⟩:=cz5 BK451.out)|((with_reducible refine gate_builtin (b:=.append) (xs:=#[.tmp 48,.tmp 60]) rfl ?_);at_builtin;refine Kd.R_append k56 (w0:=w) w.heap.size rfl (.tmp 48) (.tmp 60) 27 56 (.agg #[(.int .i64 0),(.int .i64 0)]) 16 rfl Try.underlying27 info56 rfl (by decide) (by omega) u11 x11_2 (⟨wrap64 (((rd_T56 t462 x44_2).f0) + ((rd_T48 t447 x25_1).f1)),wrap64 (((rd_T56 t462 x44_2).f1) + ((rd_T48 t447 x25_1).f3))⟩:S56) [.int .i64 (wrap64 (((rd_T56 t462 x44_2).f0) + ((rd_T48 t447 x25_1).f1))),.int .i64 (wrap64 (((rd_T56 t462 x44_2).f1) + ((rd_T48 t447 x25_1).f3)))] (fun k_=>some k_ ≠ (.slice (some ad465) t462.length co31:Value).ownBlock ∧ k_ ≠ gb466) (fun _=>False) rfl (by first|(go_simp;done)|(go_simp;rfl)) ?aP (fun _ hk=>hk.elim) ?aF ?aO ?aB ?aS ?aL ?_;(case aP=>exact k56_mkM _ _ _ (⟨wrap64 (((rd_T56 t462 x44_2).f0) + ((rd_T48 t447 x25_1).f1)),wrap64 (((rd_T56 t462 x44_2).f1) + ((rd_T48 t447 x25_1).f3))⟩:S56));(case aB=>exact (kB HB.out));(case aF=>exact (fun k_ hk=>⟨Kd.fresh' (Kd.R_lt (by (with_reducible repeat (first|apply aR|apply nR|apply dR));exact (Kd.R_mono (Kd.R_far (p:=⟨gb466,1,none⟩) (Kd.R_far (p:=⟨gb466,0,none⟩) (Kd.R_mono HO_42.out (fun k_ hk=>(⟨hk,hk.2⟩:_ ∧ k_ ≠ gb466))) (fun _ hk=>hk.2) (.int .i64 ((rd_T56 t462 x44_2).f0))) (fun _ hk=>hk.2) (.int .i64 ((rd_T56 t462 x44_2).f1))) (fun _ h_=>h_.1)))) k_ hk,Kd.freshB (g:=gb466) (o:=.cells #[.int .i64 ((rd_T56 t462 x44_2).f0),.int .i64 ((rd_T56 t462 x44_2).f1)] 56 (0,0)) (by (with_reducible repeat (first|apply nB|apply dB|apply aB));refine blk_put (cs:=#[.int .i64 ((rd_T56 t462 x44_2).f0),.int .i64 0]) ?_ 1 _ rfl;(with_reducible repeat (first|apply nB|apply dB|apply aB));refine blk_put (cs:=#[.int .i64 0,.int .i64 0]) ?_ 0 _ rfl;(with_reducible repeat (first|apply nB|apply dB|apply aB));exact BK466.out) k_ hk⟩));(case aO=>exact (by (with_reducible repeat (first|apply aR|apply nR|apply dR));exact Kd.R_mono (Kd.R_far (p:=⟨gb466,1,none⟩) (Kd.R_far (p:=⟨gb466,0,none⟩) (Kd.R_mono HO_11.out (fun k_ hk=>(⟨hk,hk.2⟩:_ ∧ k_ ≠ gb466))) (fun _ hk=>hk.2) (.int .i64 ((rd_T56 t462 x44_2).f0))) (fun _ hk=>hk.2) (.int .i64 ((rd_T56 t462 x44_2).f1))) (fun _ hk=>⟨hk.1.1,hk.1.2⟩)));(case aS=>exact (kZ HB.out));(case aL=>have:=LMc35.out;omega);intro v468 w40 ho hb hg hat;rw [← Ny467.out] at ho;replace HO_17:=mk0 (Kd.R_over' (by (with_reducible repeat (first|apply aR|apply nR|apply dR));exact (Kd.R_mono (Kd.R_far (p:=⟨gb466,1,none⟩) (Kd.R_far (p:=⟨gb466,0,none⟩) (Kd.R_types HO_17.out BK466.out (by decide)) (fun _ hk=>hk.2) (.int .i64 ((rd_T56 t462 x44_2).f0))) (fun _ hk=>hk.2) (.int .i64 ((rd_T56 t462 x44_2).f1))) (fun _ h_=>h_.1))) (Kd.R_typed (by (with_reducible repeat (first|apply aR|apply nR|apply dR));exact (Kd.R_mono (Kd.R_far (p:=⟨gb466,1,none⟩) (Kd.R_far (p:=⟨gb466,0,none⟩) (Kd.R_mono HO_11.out (fun k_ hk=>(⟨hk,hk.2⟩:_ ∧ k_ ≠ gb466))) (fun _ hk=>hk.2) (.int .i64 ((rd_T56 t462 x44_2).f0))) (fun _ hk=>hk.2) (.int .i64 ((rd_T56 t462 x44_2).f1))) (fun _ h_=>h_.1)))) (by decide) hg);replace HO_19:=mk0 (Kd.R_over' (by (with_reducible repeat (first|apply aR|apply nR|apply dR));exact (Kd.R_mono (Kd.R_far (p:=⟨gb466,1,none⟩) (Kd.R_far (p:=⟨gb466,0,none⟩) (Kd.R_types HO_19.out BK466.out (by decide)) (fun _ hk=>hk.2) (.int .i64 ((rd_T56 t462 x44_2).f0))) (fun _ hk=>hk.2) (.int .i64 ((rd_T56 t462 x44_2).f1))) (fun _ h_=>h_.1))) (Kd.R_typed (by (with_reducible repeat (first|apply aR|apply nR|apply dR));exact (Kd.R_mono (Kd.R_far (p:=⟨gb466,1,none⟩) (Kd.R_far (p:=⟨gb466,0,none⟩) (Kd.R_mono HO_11.out (fun k_ hk=>(⟨hk,hk.2⟩:_ ∧ k_ ≠ gb466))) (fun _ hk=>hk.2) (.int .i64 ((rd_T56 t462 x44_2).f0))) (fun _ hk=>hk.2) (.int .i64 ((rd_T56 t462 x44_2).f1))) (fun _ h_=>h_.1)))) (by decide) hg);replace HO_23:=mk0 (Kd.N_afterv (ok:=(fun k_=>some k_ ≠ (.slice Ao27 t441.length co27:Value).ownBlock ∧ some k_ ≠ (.slice Ao29 t444.length co29:Value).ownBlock ∧ some k_ ≠ (.slice (some ad465) t462.length co31:Value).ownBlock ∧ k_ ≠ gb451 ∧ k_ ≠ gb466)) (by (with_reducible repeat (first|apply aN|apply nN|apply dN));exact Kd.N_mono (Kd.N_far (p:=⟨gb466,1,none⟩) (Kd.N_far (p:=⟨gb466,0,none⟩) (Kd.N_mono HO_23.out (fun k_ hk=>(⟨hk,hk.2⟩:_ ∧ k_ ≠ gb466))) (fun _ hk=>hk.2) (.int .i64 ((rd_T56 t462 x44_2).f0))) (fun _ hk=>hk.2) (.int .i64 ((rd_T56 t462 x44_2).f1))) (fun _ hk=>⟨⟨hk.1.1.2.1,⟨hk.1.1.2.2.1,⟨hk.1.1.2.2.2.1,⟨hk.1.1.2.2.2.2,hk.1.2⟩⟩⟩⟩,hk.1.1.1⟩)) hg hat);replace HO_42:=mk0 (Kd.R_after (ok:=(fun k_=>k_ ≠ gb466)) (by (with_reducible repeat (first|apply aR|apply nR|apply dR));exact Kd.R_mono (Kd.R_far (p:=⟨gb466,1,none⟩) (Kd.R_far (p:=⟨gb466,0,none⟩) (Kd.R_mono HO_42.out (fun k_ hk=>(⟨hk,hk.2⟩:_ ∧ k_ ≠ gb466))) (fun _ hk=>hk.2) (.int .i64 ((rd_T56 t462 x44_2).f0))) (fun _ hk=>hk.2) (.int .i64 ((rd_T56 t462 x44_2).f1))) (fun _ hk=>⟨hk.1.2,hk.1.1⟩)) hg hat);replace BK451:=mk0 (blk_grown (g:=gb451) (o:=.cells #[.slice A450_0 ((rd_T48 t447 x25_1).f0).length c450_0,.int .i64 ((rd_T48 t447 x25_1).f1),.int .i64 ((rd_T48 t447 x25_1).f2),.int .i64 ((rd_T48 t447 x25_1).f3),.int .i64 ((rd_T48 t447 x25_1).f4)] 48 (0,0)) (by (with_reducible repeat (first|apply nB|apply dB|apply aB));refine blk_far ?_ NB451_466.out _;(with_reducible repeat (first|apply nB|apply dB|apply aB));refine blk_far ?_ NB451_466.out _;(with_reducible repeat (first|apply nB|apply dB|apply aB));exact BK451.out) hg (Kd.R_ne HO_11.out BK451.out (by decide)));replace BK466:=mk0 (blk_grown (g:=gb466) (o:=.cells #[.int .i64 ((rd_T56 t462 x44_2).f0),.int .i64 ((rd_T56 t462 x44_2).f1)] 56 (0,0)) (by (with_reducible repeat (first|apply nB|apply dB|apply aB));refine blk_put (cs:=#[.int .i64 ((rd_T56 t462 x44_2).f0),.int .i64 0]) ?_ 1 _ rfl;(with_reducible repeat (first|apply nB|apply dB|apply aB));refine blk_put (cs:=#[.int .i64 0,.int .i64 0]) ?_ 0 _ rfl;(with_reducible repeat (first|apply nB|apply dB|apply aB));exact BK466.out) hg (Kd.R_away HO_11.out (fun _ hk=>hk.2)));replace HB:=mk0 (hb);have HO469:=mk0 (ho);clear HO_11 ho hb hg hat))
     go_roundg k2
     case measure=>have:=HK1.out;have:=HK2.out;omega
     case rel=>exact⟨(y467),(wrap64 (x44_2 + 1)),eS,H',⟨by have:=HK1.out;have:=HK2.out;omega⟩,⟨rR (Kd.R_mono HO469.out (fun _ hk=>hk.1))⟩,⟨rR HO_17.out⟩,⟨rR HO_19.out⟩,⟨rN (Kd.N_mono HO_23.out (fun _ hk=>⟨hk.2,⟨hk.1.1,⟨hk.1.2.1,⟨hk.1.2.2.1,hk.1.2.2.2.1⟩⟩⟩⟩))⟩,⟨rR (Kd.R_mono HO_42.out (fun _ hk=>hk.2))⟩,⟨kN BK451.out⟩,⟨kB HB.out⟩⟩
/-! ### impl_ShareLost: function 11 -/
def impl_ShareLost.f (k : Nat) (l0 : List Int) (l1 : List Int) (a2 : Int) (a3 : Int) : Option (Int) := (impl_isShared.f l0 l1 a2).bind fun t470 => (if t470 = true then ((impl_bwtOf.f k l0).bind fun t471 => ((impl_bwtOf.f k l1).bind fun t474 => ((impl_CommonLen.f k t471 t474).bind fun t477 => ((impl_shareOf.f k l0 l1 a2 a3).bind fun t478 => (some (wrap64 (t477 - (t478.length : Int)))))))) else (some (-1)))
set_option maxHeartbeats 8000000 in
set_option maxRecDepth 100000 in
theorem impl_ShareLost.calls (k : Nat) (A0 : Option Addr) (c0 : Nat) (l0 : List Int) (A1 : Option Addr) (c1 : Nat) (l1 : List Int) (a2 : Int) (a3 : Int) (r : Int) (w : World) (hr0 : Kd.C (Kd.int .u8) w A0 l0.length l0) (hc0 : l0.length ≤ c0) (hr1 : Kd.C (Kd.int .u8) w A1 l1.length l1) (hc1 : l1.length ≤ c1) (h : impl_ShareLost.f k l0 l1 a2 a3 = some r) :
  Calls Try.prog 11 #[.slice A0 l0.length c0, .slice A1 l1.length c1, .int .i64 a2, .int .i64 a3] w fun e w' => e = .returned (.int .i64 r) ∧ Below w.heap.size w w' := by
 have HR0:=mk0 hr0
 have HC0:=mk0 hc0
 clear hr0 hc0
 have HR1:=mk0 hr1
 have HC1:=mk0 hc1
 clear hr1 hc1
 have HB:=mk0 (Below.refl w.heap.size w)
 have H:((impl_isShared.f l0 l1 a2).bind fun t470=>(if t470 = true then ((impl_bwtOf.f k l0).bind fun t471=>((impl_bwtOf.f k l1).bind fun t474=>((impl_CommonLen.f k t471 t474).bind fun t477=>((impl_shareOf.f k l0 l1 a2 a3).bind fun t478=>(some (wrap64 (t477 - (t478.length:Int)))))))) else (some (-1)))) = some r:=h
 clear h
 replace H:=bE H
 obtain⟨t470,A5,H⟩:=H
 by_cases c6:t470 = true
 ·subst c6
  replace H:=iT H
  replace H:=bE H
  obtain⟨t471,A7,H⟩:=H
  replace H:=bE H
  obtain⟨t474,A8,H⟩:=H
  replace H:=bE H
  obtain⟨t477,A9,H⟩:=H
  replace H:=bE H
  obtain⟨t478,A10,H⟩:=H
  obtain rfl:=Option.some.inj H
  go_enter Try.func11,Try.ntmps11
  go_wp2_with (first|((with_reducible refine gate_callee (f:=38) rfl ?_);refine gL (some 12) Try.func38 #[.slice A0 l0.length c0,.slice A1 l1.length c1,.int .i64 a2] ?_;(with_reducible refine (impl_isShared.calls _ _ l0 _ _ l1 a2 true _ ?side1 ?side2 ?side3 ?side4 A5.out).mono ?_);(case side1=>exact kC HR0.out);(case side2=>exact HC0.out);(case side3=>exact kC HR1.out);(case side4=>exact HC1.out);rintro e w' ⟨rfl,⟨nd,rfl⟩⟩;refine⟨_,rfl,?_⟩)|((with_reducible refine gate_callee (f:=40) rfl ?_);refine gL (some 15) Try.func40 #[.slice A0 l0.length c0] ?_;(with_reducible refine (impl_bwtOf.calls k _ _ l0 t471 _ ?side1 ?side2 A7.out).mono ?_);(case side1=>exact kC HR0.out);(case side2=>exact HC0.out);rintro e w11 ⟨v472,rfl,ho0,hb⟩;refine⟨_,rfl,?_⟩;have HO473:=mk0 (Kd.R_lower ho0 (kZ HB.out));replace HB:=mk0 (kS HB.out hb);(try clear hb);(try clear ho0))|((with_reducible refine gate_callee (f:=40) rfl ?_);refine gL (some 17) Try.func40 #[.slice A1 l1.length c1] ?_;(with_reducible refine (impl_bwtOf.calls k _ _ l1 t474 _ ?side1 ?side2 A8.out).mono ?_);(case side1=>exact kC (Kd.C_below HR1.out HB.out));(case side2=>exact HC1.out);rintro e w12 ⟨v475,rfl,ho0,hb⟩;refine⟨_,rfl,?_⟩;have HO476:=mk0 (Kd.R_lower (Kd.R_new' ho0 (Kd.R_lt (rR HO473.out))) (kZ HB.out));replace HO473:=mk0 (Kd.R_elder' (rR HO473.out) (Kd.R_base ho0) hb);replace HB:=mk0 (kS HB.out hb);(try clear hb);(try clear ho0);obtain⟨Ao13,co13,eo13⟩:=Kd.R_slice HO473.out;subst eo13;obtain⟨Ao14,co14,eo14⟩:=Kd.R_slice HO476.out;subst eo14)|((with_reducible refine gate_callee (f:=39) rfl ?_);refine gL (some 18) Try.func39 #[.slice Ao13 t471.length co13,.slice Ao14 t474.length co14] ?_;(with_reducible refine (impl_CommonLen.calls k _ _ t471 _ _ t474 t477 _ ?side1 ?side2 ?side3 ?side4 A9.out).mono ?_);(case side1=>exact kC (Kd.R_reads' HO473.out).2.2);(case side2=>exact (Kd.R_reads' HO473.out).2.1);(case side3=>exact kC (Kd.R_reads' HO476.out).2.2);(case side4=>exact (Kd.R_reads' HO476.out).2.1);rintro e w15 ⟨rfl,hb⟩;refine⟨_,rfl,?_⟩;replace HO473:=mk0 (bR HO473.out hb);replace HO476:=mk0 (bR HO476.out hb);replace HB:=mk0 (kS HB.out hb);(try clear hb))|((with_reducible refine gate_callee (f:=41) rfl ?_);refine gL (some 23) Try.func41 #[.slice A0 l0.length c0,.slice A1 l1.length c1,.int .i64 a2,.int .i64 a3] ?_;(with_reducible refine (impl_shareOf.calls k _ _ l0 _ _ l1 a2 a3 t478 _ ?side1 ?side2 ?side3 ?side4 A10.out).mono ?_);(case side1=>exact kC (Kd.C_below HR0.out HB.out));(case side2=>exact HC0.out);(case side3=>exact kC (Kd.C_below HR1.out HB.out));(case side4=>exact HC1.out);rintro e w16 ⟨v479,rfl,ho0,hb⟩;refine⟨_,rfl,?_⟩;replace HO473:=mk0 (bR HO473.out hb);replace HO476:=mk0 (bR HO476.out hb);have HO480:=mk0 (Kd.R_lower ho0 (kZ HB.out));replace HB:=mk0 (kS HB.out hb);(try clear hb);(try clear ho0);obtain⟨Ao17,co17,eo17⟩:=Kd.R_slice HO480.out;subst eo17))
  go_ret
  exact⟨eR,kB HB.out⟩
 ·replace c6:=Bool.eq_false_iff.mpr c6
  subst c6
  replace H:=iF H
  obtain rfl:=Option.some.inj H
  go_enter Try.func11,Try.ntmps11
  go_wp2_with (first|((with_reducible refine gate_callee (f:=38) rfl ?_);refine gL (some 12) Try.func38 #[.slice A0 l0.length c0,.slice A1 l1.length c1,.int .i64 a2] ?_;(with_reducible refine (impl_isShared.calls _ _ l0 _ _ l1 a2 false _ ?side1 ?side2 ?side3 ?side4 A5.out).mono ?_);(case side1=>exact kC HR0.out);(case side2=>exact HC0.out);(case side3=>exact kC HR1.out);(case side4=>exact HC1.out);rintro e w' ⟨rfl,⟨nd,rfl⟩⟩;refine⟨_,rfl,?_⟩))
  go_ret
  exact⟨eR,kB HB.out⟩
/-! ### impl_ShareOf: function 14 -/
def impl_ShareOf.f (k : Nat) (l0 : List Int) (l1 : List Int) (a2 : Int) (a3 : Int) : Option ((List (S56))) := (impl_isShared.f l0 l1 a2).bind fun t481 => (if t481 = true then ((impl_shareOf.f k l0 l1 a2 a3).bind fun t482 => (some t482)) else (some ([] : List (S56))))
set_option maxHeartbeats 8000000 in
set_option maxRecDepth 100000 in
theorem impl_ShareOf.calls (k : Nat) (A0 : Option Addr) (c0 : Nat) (l0 : List Int) (A1 : Option Addr) (c1 : Nat) (l1 : List Int) (a2 : Int) (a3 : Int) (r : List (S56)) (w : World) (hr0 : Kd.C (Kd.int .u8) w A0 l0.length l0) (hc0 : l0.length ≤ c0) (hr1 : Kd.C (Kd.int .u8) w A1 l1.length l1) (hc1 : l1.length ≤ c1) (h : impl_ShareOf.f k l0 l1 a2 a3 = some r) :
  Calls Try.prog 14 #[.slice A0 l0.length c0, .slice A1 l1.length c1, .int .i64 a2, .int .i64 a3] w fun e w' => ∃ v0_ : Value, e = .returned (v0_) ∧ Kd.R k56 56 w' w.heap.size (fun _ => True) v0_ r ∧ Below w.heap.size w w' := by
 have HR0:=mk0 hr0
 have HC0:=mk0 hc0
 clear hr0 hc0
 have HR1:=mk0 hr1
 have HC1:=mk0 hc1
 clear hr1 hc1
 have HB:=mk0 (Below.refl w.heap.size w)
 have H:((impl_isShared.f l0 l1 a2).bind fun t481=>(if t481 = true then ((impl_shareOf.f k l0 l1 a2 a3).bind fun t482=>(some t482)) else (some ([]:List (S56))))) = some r:=h
 clear h
 replace H:=bE H
 obtain⟨t481,A5,H⟩:=H
 by_cases c6:t481 = true
 ·subst c6
  replace H:=iT H
  replace H:=bE H
  obtain⟨t482,A7,H⟩:=H
  obtain rfl:=Option.some.inj H
  go_enter Try.func14,Try.ntmps14
  go_wp2_with (first|((with_reducible refine gate_callee (f:=38) rfl ?_);refine gL (some 12) Try.func38 #[.slice A0 l0.length c0,.slice A1 l1.length c1,.int .i64 a2] ?_;(with_reducible refine (impl_isShared.calls _ _ l0 _ _ l1 a2 true _ ?side1 ?side2 ?side3 ?side4 A5.out).mono ?_);(case side1=>exact kC HR0.out);(case side2=>exact HC0.out);(case side3=>exact kC HR1.out);(case side4=>exact HC1.out);rintro e w' ⟨rfl,⟨nd,rfl⟩⟩;refine⟨_,rfl,?_⟩)|((with_reducible refine gate_callee (f:=41) rfl ?_);refine gL (some 18) Try.func41 #[.slice A0 l0.length c0,.slice A1 l1.length c1,.int .i64 a2,.int .i64 a3] ?_;(with_reducible refine (impl_shareOf.calls k _ _ l0 _ _ l1 a2 a3 t482 _ ?side1 ?side2 ?side3 ?side4 A7.out).mono ?_);(case side1=>exact kC HR0.out);(case side2=>exact HC0.out);(case side3=>exact kC HR1.out);(case side4=>exact HC1.out);rintro e w8 ⟨v483,rfl,ho0,hb⟩;refine⟨_,rfl,?_⟩;have HO484:=mk0 (Kd.R_lower ho0 (kZ HB.out));replace HB:=mk0 (kS HB.out hb);(try clear hb);(try clear ho0)))
  go_ret
  exact⟨_,eR,rR HO484.out,kB HB.out⟩
 ·replace c6:=Bool.eq_false_iff.mpr c6
  subst c6
  replace H:=iF H
  obtain rfl:=Option.some.inj H
  go_enter Try.func14,Try.ntmps14
  go_wp2_with (first|((with_reducible refine gate_callee (f:=38) rfl ?_);refine gL (some 12) Try.func38 #[.slice A0 l0.length c0,.slice A1 l1.length c1,.int .i64 a2] ?_;(with_reducible refine (impl_isShared.calls _ _ l0 _ _ l1 a2 false _ ?side1 ?side2 ?side3 ?side4 A5.out).mono ?_);(case side1=>exact kC HR0.out);(case side2=>exact HC0.out);(case side3=>exact kC HR1.out);(case side4=>exact HC1.out);rintro e w' ⟨rfl,⟨nd,rfl⟩⟩;refine⟨_,rfl,?_⟩))
  go_ret
  exact⟨_,eR,by first|exact Kd.R_nil _ _ _ _ _|exact Kd.N_nil _ _ _ _ _|exact Kd.V_nil _ _ _ _ _|exact Kd.Q_nil _ _ _ _ _|exact Kd.S_nil _ _ _ _ _,kB HB.out⟩
/-! ### laws_big: function 19 -/
def laws_big.f (l0 : List Int) : Option (Bool) := some (decide ((l0.length : Int) > 1048576))
set_option maxHeartbeats 8000000 in
set_option maxRecDepth 100000 in
theorem laws_big.calls (A0 : Option Addr) (c0 : Nat) (l0 : List Int) (r : Bool) (w : World) (hr0 : Kd.C (Kd.int .u8) w A0 l0.length l0) (hc0 : l0.length ≤ c0) (h : laws_big.f l0 = some r) :
  Calls Try.prog 19 #[.slice A0 l0.length c0] w fun e w' => e = .returned (.bool r) ∧ Drawn0 w w' := by
 have HR0:=mk0 hr0
 have HC0:=mk0 hc0
 clear hr0 hc0
 have H:(some (decide ((l0.length:Int) > 1048576))) = some r:=h
 clear h
 obtain rfl:=Option.some.inj H
 go_enter Try.func19,Try.ntmps19
 go_wp2
 go_ret
 exact⟨by first|rfl|(simp;done)|(simp [*];done),by repeat (first|exact Drawn0.refl _|apply Drawn0.step)⟩
/-- A state of type 79 at block g of W; what its slices lead to came in by w0. -/
def IsS79 (w0 W : World) (g : Nat) (f0 : List Int) (f1 : Int) (f2 : Int) : Prop := ∃ A0 c0, W.heap[g]? = some (.cells #[.slice A0 f0.length c0, .int .i64 f1, .int .i64 f2] 79 (0, 0)) ∧ w0.heap.size ≤ g ∧ Kd.C (Kd.int .u8) w0 A0 f0.length f0
theorem IsS79.grown {w0 W : World} {g : Nat} {f0 : List Int} {f1 : Int} {f2 : Int} {W1 : World} {row : Option Nat} (h : IsS79 w0 W g f0 f1 f2) (hw : W.grownBy W1 row) (hne : some g ≠ row) : IsS79 w0 W1 g f0 f1 f2 := by
 obtain ⟨A0, c0, hb, hg, hr0⟩ := h
 exact ⟨A0, c0, blk_grown hb hw hne, hg, hr0⟩
theorem IsS79.own_neN {w0 W : World} {g : Nat} {f0 : List Int} {f1 : Int} {f2 : Int} {α : Type} {d : Kd α} {e : Nat} {base : Nat} {ok : Nat → Prop} {v : Value} {xs : List α} (h : IsS79 w0 W g f0 f1 f2) (ho : Kd.N d e W base ok v xs) (ht : e ≠ 79) : some g ≠ v.ownBlock := by
 obtain ⟨A0, c0, hb, hg, hr0⟩ := h
 exact Kd.N_ne ho hb ht
theorem IsS79.fresh {w0 W : World} {g : Nat} {f0 : List Int} {f1 : Int} {f2 : Int} (h : IsS79 w0 W g f0 f1 f2) : ∀ k, W.heap.size ≤ k → k ≠ g := by
 obtain ⟨A0, c0, hb, hg, hr0⟩ := h
 exact Kd.freshB hb
theorem IsS79.kept {w0 W : World} {g : Nat} {f0 : List Int} {f1 : Int} {f2 : Int} {W1 : World} {S : Nat → Prop} (h : IsS79 w0 W g f0 f1 f2) (hk : Kept W W1 S) (hne : ¬ S g) : IsS79 w0 W1 g f0 f1 f2 := by
 obtain ⟨A0, c0, hb, hg, hr0⟩ := h
 exact ⟨A0, c0, blk_kept hb hk hne, hg, hr0⟩
theorem IsS79.below {w0 W : World} {g : Nat} {f0 : List Int} {f1 : Int} {f2 : Int} {W1 : World} (h : IsS79 w0 W g f0 f1 f2) (hw : Below W.heap.size W W1) : IsS79 w0 W1 g f0 f1 f2 := h.grown (grown_of_below hw none) (by simp)
theorem IsS79.alloc {w0 W : World} {g : Nat} {f0 : List Int} {f1 : Int} {f2 : Int} (h : IsS79 w0 W g f0 f1 f2) (o : Obj) : IsS79 w0 (W.alloc o) g f0 f1 f2 := h.below (below_alloc (Below.refl _ _) o)
theorem IsS79.drewN {w0 W : World} {g : Nat} {f0 : List Int} {f1 : Int} {f2 : Int} (h : IsS79 w0 W g f0 f1 f2) (m : Nat) : IsS79 w0 (W.drewN m) g f0 f1 f2 := h
theorem IsS79.drew {w0 W : World} {g : Nat} {f0 : List Int} {f1 : Int} {f2 : Int} (h : IsS79 w0 W g f0 f1 f2) : IsS79 w0 W.drew g f0 f1 f2 := h
theorem IsS79.at_ {w0 W : World} {g : Nat} {f0 : List Int} {f1 : Int} {f2 : Int} {w' : World} {m : Nat} (hq : W.drewN m = w') (h : IsS79 w0 W g f0 f1 f2) : IsS79 w0 w' g f0 f1 f2 := by subst hq; exact IsS79.drewN h m
theorem IsS79.apart {w0 W : World} {g : Nat} {f0 : List Int} {f1 : Int} {f2 : Int} {α : Type} {d : Kd α} {e : Nat} {base : Nat} {ok : Nat → Prop} {v : Value} {xs : List α} (h : IsS79 w0 W g f0 f1 f2) (ho : d.R e W base ok v xs) (ht : ∀ q, q ∈ e :: d.E → q ≠ 79) : d.R e W base (fun k => ok k ∧ k ≠ g) v xs := by
 obtain ⟨A0, c0, hb, hg, hr0⟩ := h
 exact Kd.R_types ho hb ht
theorem IsS79.own_ne {w0 W : World} {g : Nat} {f0 : List Int} {f1 : Int} {f2 : Int} {α : Type} {d : Kd α} {e : Nat} {base : Nat} {ok : Nat → Prop} {v : Value} {xs : List α} (h : IsS79 w0 W g f0 f1 f2) (ho : d.R e W base ok v xs) (ht : e ≠ 79) : some g ≠ v.ownBlock := by
 obtain ⟨A0, c0, hb, hg, hr0⟩ := h
 exact Kd.R_ne ho hb ht
theorem IsS79.apartQ {w0 W : World} {g : Nat} {f0 : List Int} {f1 : Int} {f2 : Int} {α : Type} {d : Kd α} {e : Nat} {base : Nat} {ok : Nat → Prop} {v : Value} {xs : List α} (h : IsS79 w0 W g f0 f1 f2) (ho : d.Q e W base ok v xs) (ht : ∀ q, q ∈ e :: d.E → q ≠ 79) : d.Q e W base (fun k => ok k ∧ k ≠ g) v xs := by
 obtain ⟨A0, c0, hb, hg, hr0⟩ := h
 exact Kd.Q_types ho hb ht
theorem IsS79.own_neQ {w0 W : World} {g : Nat} {f0 : List Int} {f1 : Int} {f2 : Int} {α : Type} {d : Kd α} {e : Nat} {base : Nat} {ok : Nat → Prop} {v : Value} {xs : List α} (h : IsS79 w0 W g f0 f1 f2) (ho : d.Q e W base ok v xs) (ht : e ≠ 79) : some g ≠ v.ownBlock := by
 obtain ⟨A0, c0, hb, hg, hr0⟩ := h
 exact Kd.Q_ne ho hb ht
theorem IsS79.apartS {w0 W : World} {g : Nat} {f0 : List Int} {f1 : Int} {f2 : Int} {α : Type} {d : Kd α} {e : Nat} {base : Nat} {ok : Nat → Prop} {v : Value} {xs : List α} (h : IsS79 w0 W g f0 f1 f2) (ho : d.S e W base ok v xs) (ht : ∀ q, q ∈ e :: d.E → q ≠ 79) : d.S e W base (fun k => ok k ∧ k ≠ g) v xs := by
 obtain ⟨A0, c0, hb, hg, hr0⟩ := h
 exact Kd.S_types ho hb ht
theorem IsS79.own_neS {w0 W : World} {g : Nat} {f0 : List Int} {f1 : Int} {f2 : Int} {α : Type} {d : Kd α} {e : Nat} {base : Nat} {ok : Nat → Prop} {v : Value} {xs : List α} (h : IsS79 w0 W g f0 f1 f2) (ho : d.S e W base ok v xs) (ht : e ≠ 79) : some g ≠ v.ownBlock := by
 obtain ⟨A0, c0, hb, hg, hr0⟩ := h
 exact Kd.S_ne ho hb ht
theorem IsS79.lt {w0 W : World} {g : Nat} {f0 : List Int} {f1 : Int} {f2 : Int} (h : IsS79 w0 W g f0 f1 f2) : g < W.heap.size := by
 obtain ⟨A0, c0, hb, hg, hr0⟩ := h
 exact blk_lt hb
theorem IsS79.ge {w0 W : World} {g : Nat} {f0 : List Int} {f1 : Int} {f2 : Int} (h : IsS79 w0 W g f0 f1 f2) : w0.heap.size ≤ g := by
 obtain ⟨A0, c0, hb, hg, hr0⟩ := h
 exact hg
theorem IsS79.ne_blk {w0 W : World} {g : Nat} {f0 : List Int} {f1 : Int} {f2 : Int} {a : Nat} {cs : Array Value} {t : TypeId} {fr : Nat × Nat} (h : IsS79 w0 W g f0 f1 f2) (hb2 : W.heap[a]? = some (.cells cs t fr)) (ht : t ≠ 79) : g ≠ a := by
 obtain ⟨A0, c0, hb, hg, hr0⟩ := h
 rintro rfl
 rw [hb] at hb2
 injection hb2 with hb2
 injection hb2 with _ ht2
 exact ht ht2.symm
theorem IsS79.far {w0 W : World} {g : Nat} {f0 : List Int} {f1 : Int} {f2 : Int} {p : Addr} (h : IsS79 w0 W g f0 f1 f2) (hne : g ≠ p.block) (u : Value) : IsS79 w0 (W.setCell p u) g f0 f1 f2 := by
 obtain ⟨A0, c0, hb, hg, hr0⟩ := h
 exact ⟨A0, c0, blk_far hb hne u, hg, hr0⟩
theorem cellS79_0 {W : World} {g : Nat} {A0 : Option Addr} {c0 : Nat} {f0 : List Int} {f1 : Int} {f2 : Int} (h : W.heap[g]? = some (.cells #[.slice A0 f0.length c0, .int .i64 f1, .int .i64 f2] 79 (0, 0))) : W.cell? ⟨g, 0, none⟩ = some (.slice A0 f0.length c0) := (blk_cell h 0).trans rfl
theorem cellS79_1 {W : World} {g : Nat} {A0 : Option Addr} {c0 : Nat} {f0 : List Int} {f1 : Int} {f2 : Int} (h : W.heap[g]? = some (.cells #[.slice A0 f0.length c0, .int .i64 f1, .int .i64 f2] 79 (0, 0))) : W.cell? ⟨g, 1, none⟩ = some (.int .i64 f1) := (blk_cell h 1).trans rfl
theorem IsS79.set_1 {w0 W : World} {g : Nat} {f0 : List Int} {f1 : Int} {f2 : Int} (h : IsS79 w0 W g f0 f1 f2) (x : Int) : IsS79 w0 (W.setCell ⟨g, 1, none⟩ (.int .i64 x)) g f0 x f2 := by
 obtain ⟨A0, c0, hb, hg, hr0⟩ := h
 exact ⟨A0, c0, by simpa using blk_set hb 1 (.int .i64 x), hg, hr0⟩
theorem cellS79_2 {W : World} {g : Nat} {A0 : Option Addr} {c0 : Nat} {f0 : List Int} {f1 : Int} {f2 : Int} (h : W.heap[g]? = some (.cells #[.slice A0 f0.length c0, .int .i64 f1, .int .i64 f2] 79 (0, 0))) : W.cell? ⟨g, 2, none⟩ = some (.int .i64 f2) := (blk_cell h 2).trans rfl
theorem IsS79.set_2 {w0 W : World} {g : Nat} {f0 : List Int} {f1 : Int} {f2 : Int} (h : IsS79 w0 W g f0 f1 f2) (x : Int) : IsS79 w0 (W.setCell ⟨g, 2, none⟩ (.int .i64 x)) g f0 f1 x := by
 obtain ⟨A0, c0, hb, hg, hr0⟩ := h
 exact ⟨A0, c0, by simpa using blk_set hb 2 (.int .i64 x), hg, hr0⟩
theorem IsS79.new (w0 W : World) (A0 : Option Addr) (c0 : Nat) (f0 : List Int) (f1 : Int) (f2 : Int) (hB : Below w0.heap.size w0 W) (hr0 : Kd.C (Kd.int .u8) w0 A0 f0.length f0) : IsS79 w0 (W.alloc (.cells #[.slice A0 f0.length c0, .int .i64 f1, .int .i64 f2] 79)) W.heap.size f0 f1 f2 := ⟨A0, c0, by simpa using heap_alloc_new W _, hB.size, hr0⟩
/-! ### spec_l01Open: function 44 -/
def spec_l01Open.f (l0 : List Int) : Option (List Int × Int × Int) := some (l0, 0, 89 + ((l0.length : Int) % 1000))
set_option maxHeartbeats 8000000 in
set_option maxRecDepth 100000 in
theorem spec_l01Open.calls (A0 : Option Addr) (c0 : Nat) (l0 : List Int) (r1 : List Int) (r2 : Int) (r3 : Int) (w0 w : World) (hB : Below w0.heap.size w0 w) (hr0 : Kd.C (Kd.int .u8) w0 A0 l0.length l0) (hc0 : l0.length ≤ c0) (h : spec_l01Open.f l0 = some (r1, r2, r3)) :
  Calls Try.prog 44 #[.slice A0 l0.length c0] w fun e w' => ∃ g_ : Nat, e = .returned (.pointer (some ⟨g_, 0, none⟩)) ∧ IsS79 w0 w' g_ r1 r2 r3 ∧ Below w0.heap.size w0 w' ∧ Below w.heap.size w w' := by
 have hu79:=Try.underlying79
 have HR0:=mk0 hr0
 have HC0:=mk0 hc0
 clear hr0 hc0
 have HBW:=mk0 (Below.refl w.heap.size w)
 have HW0:=mk0 hB.size
 have HB:=mk0 hB
 clear hB
 have H:(some (l0,0,89 + ((l0.length:Int) % 1000))) = some (r1,r2,r3):=h
 clear h
 simp only [Option.some.injEq,Prod.mk.injEq] at H
 obtain⟨rfl,rfl,rfl⟩:=H
 go_enter Try.func44,Try.ntmps44
 go_wp2_with (first|((with_reducible refine gate_dst (N:=9) rfl ?_);refine box_event ?hg (N:=9) ?hd (cs:=#[.slice A0 l0.length c0,.int .i64 0,.int .i64 (89 + ((l0.length:Int) % 1000))]) (t:=79) ?hr ?_;(case hd=>rfl);(case hg=>rfl);(case hr=>first|(go_simp;done)|(go_simp;rfl));intro gb485 hg w2 hbox hb;replace HB:=mk0 (kS HB.out hb);have BK485:=mk0 (hbox);have GW485:=mk0 ((by rw [hg];exact (kZ HBW.out):w.heap.size ≤ gb485));have GE485:=mk0 ((Nat.le_trans HW0.out (by rw [hg];exact (kZ HBW.out):w.heap.size ≤ gb485):w0.heap.size ≤ gb485));replace HBW:=mk0 (below_step HBW.out hb);clear hb hbox hg))
 go_ret
 exact⟨_,rfl,(show IsS79 w0 _ gb485 l0 0 (89 + ((l0.length:Int) % 1000)) from ⟨_,_,kN BK485.out,GE485.out,HR0.out⟩),kB HB.out,kB HBW.out⟩
end Go.Proofs.Ytadhngelhognaaa.QFnShare
