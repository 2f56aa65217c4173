-- A walk, made by walk.py, a program of this session's.
import Derived.Test.YtadhngelhognaaaQFnSharex0
import Derived.Test.YtadhngelhognaaaQFnSharex7
import Derived.Test.YtadhngelhognaaaQFnSharex8
namespace Go.Proofs.Ytadhngelhognaaa.QFnShare
open Go.RowKit Go.Proofs.YtadhngelhognaaaW.PrintWords Go.Proofs.YtadhngelhognaaaW.PrintLast Go.Proofs.YtadhngelhognaaaW.PrintMore
attribute [local go_sem] max2_int min2_int max_two min_two max_three min_three max_four min_four   -- for this text's walks alone
set_option linter.unusedVariables false
set_option linter.unusedSimpArgs false
/-! ### impl_CommonOk: function 50 -/
mutual
def impl_CommonOk.l0 : Nat → List Int → List Int → List (S56) → List (S56) → Int → Int → Option (Bool)
 | 0, _, _, _, _, _, _ => none
 | k + 1, x0, x1, x2, x13, x14, x15 => if x15 < x14 then (if 0 ≤ x15 then (if x15 < (x13.length : Int) then ((impl_within.f ((rd_T56 x13 x15).f0) 0 (wrap64 ((x0.length : Int) - 1))).bind fun t664 => (if t664 = true then ((impl_within.f ((rd_T56 x13 x15).f1) 0 (wrap64 ((x1.length : Int) - 1))).bind fun t665 => (if t665 = true then (if 0 ≤ ((rd_T56 x13 x15).f0) then (if ((rd_T56 x13 x15).f0) < (x0.length : Int) then (if 0 ≤ ((rd_T56 x13 x15).f1) then (if ((rd_T56 x13 x15).f1) < (x1.length : Int) then (if (rd x0 ((rd_T56 x13 x15).f0)) = (rd x1 ((rd_T56 x13 x15).f1)) then (if x15 > 0 then (if 0 ≤ (wrap64 (x15 - 1)) then (if (wrap64 (x15 - 1)) < (x2.length : Int) then (if ((rd_T56 x13 x15).f0) ≤ ((rd_T56 x2 (wrap64 (x15 - 1))).f0) then (impl_CommonOk.j1 k x0 x1 x2 x13 x14 x15 true) else (impl_CommonOk.j1 k x0 x1 x2 x13 x14 x15 (decide (((rd_T56 x13 x15).f1) ≤ ((rd_T56 x2 (wrap64 (x15 - 1))).f1))))) else (none)) else (none)) else (impl_CommonOk.j1 k x0 x1 x2 x13 x14 x15 false)) else (impl_CommonOk.j1 k x0 x1 x2 x13 x14 x15 true)) else (none)) else (none)) else (none)) else (none)) else (impl_CommonOk.j1 k x0 x1 x2 x13 x14 x15 true))) else (impl_CommonOk.j1 k x0 x1 x2 x13 x14 x15 true))) else (none)) else (none)) else (some true)
def impl_CommonOk.j1 : Nat → List Int → List Int → List (S56) → List (S56) → Int → Int → Bool → Option (Bool)
 | 0, _, _, _, _, _, _, _ => none
 | k + 1, x0, x1, x2, x13, x14, x15, x74 => if x74 = true then (some false) else (impl_CommonOk.l0 k x0 x1 x2 x13 x14 (wrap64 (x15 + 1)))
end
def impl_CommonOk.f (k : Nat) (l0 : List Int) (l1 : List Int) (l2 : List (S56)) : Option (Bool) := (impl_areListed.f l0 l1).bind fun t661 => (if t661 = true then (impl_CommonOk.l0 k l0 l1 l2 l2 (l2.length : Int) 0) else (some false))
def impl_CommonOk.T6 : Bool × List (List Nat × List Nat) := (true, [([], []), ([0], [0]), ([], []), ([2], [2]), ([3], [3]), ([1, 4], [1, 4]), ([5], [5]), ([6, 5], [6]), ([7], [7]), ([8, 7], [7, 8]), ([7], [7]), ([10, 7], [7, 10]), ([11, 7], [7, 11]), ([9, 12, 7, 7], [7, 9, 12]), ([13, 7], [7, 13]), ([7, 14], [7, 14]), ([15, 13], [15]), ([16], [16]), ([16], [16]), ([18, 16], [16, 18]), ([17, 19, 16], [16, 17, 19]), ([20, 16], [16, 20]), ([16], [16]), ([16], [16]), ([23, 16], [16, 23]), ([22, 24, 16], [16, 22, 24]), ([25, 16], [16, 25]), ([21, 26, 16], [16, 21, 26]), ([16, 27], [16, 27]), ([28, 16], [28]), ([29], [29]), ([30, 29], [29, 30]), ([31, 29, 29], [29, 31]), ([32], [32]), ([33, 32], [32, 33]), ([32], [32]), ([32], [32]), ([36, 32], [32, 36]), ([35, 37, 32], [32, 35, 37]), ([38, 32], [32, 38]), ([39, 32], [32, 39]), ([34, 40, 32], [32, 34, 40]), ([41, 32, 32], [32, 41]), ([42], [42]), ([43, 42], [42, 43]), ([42], [42]), ([42], [42]), ([46, 42], [42, 46]), ([45, 47, 42], [42, 45, 47]), ([48, 42], [42, 48]), ([49, 42], [42, 49]), ([44, 50, 42], [42, 44, 50]), ([42, 51, 32], [32, 42, 51]), ([32, 52, 29], [29, 32, 52]), ([29, 53], [29, 53])])
def impl_CommonOk.B6 : List Nat := [0, 1, 0, 4, 12, 31, 63, 127, 255, 511, 255, 1279, 3327, 8191, 16383, 32767, 65535, 131071, 131071, 393215, 1048575, 2097151, 131071, 131071, 8519679, 29491199, 63045631, 134217727, 268435455, 536870911, 1073741823, 2147483647, 4294967295, 8589934591, 17179869183, 8589934591, 8589934591, 77309411327, 249108103167, 523986010111, 1073741823999, 2199023255551, 4398046511103, 8796093022207, 17592186044415, 8796093022207, 8796093022207, 79164837199871, 255086697644031, 536561674354687, 1099511627775999, 2251799813685247, 4503599627370495, 9007199254740991, 18014398509481983]
theorem impl_CommonOk.tab6 : rtab .any (opsOf Try.f50 6) = impl_CommonOk.T6 := by kernel_rfl
theorem impl_CommonOk.bits6 : waitsOk impl_CommonOk.T6.2 impl_CommonOk.B6 = true := by kernel_rfl
set_option maxHeartbeats 8000000 in
set_option maxRecDepth 100000 in
theorem impl_CommonOk.calls (k : Nat) (A0 : Option Addr) (c0 : Nat) (l0 : List Int) (A1 : Option Addr) (c1 : Nat) (l1 : List Int) (A2 : Option Addr) (c2 : Nat) (l2 : List (S56)) (r : Bool) (w : World) (hr0 : Kd.C (Kd.int .i64) w A0 l0.length l0) (hc0 : l0.length ≤ c0) (hr1 : Kd.C (Kd.int .i64) w A1 l1.length l1) (hc1 : l1.length ≤ c1) (hr2 : Kd.C k56 w A2 l2.length l2) (hc2 : l2.length ≤ c2) (h : impl_CommonOk.f k l0 l1 l2 = some r) :
  Calls Try.prog 50 #[.slice A0 l0.length c0, .slice A1 l1.length c1, .slice A2 l2.length c2] w fun e w' => e = .returned (.bool r) ∧ Below w.heap.size w w' := by
 have hu56:=Try.underlying56
 have HR0:=mk0 hr0
 have HC0:=mk0 hc0
 clear hr0 hc0
 have HR1:=mk0 hr1
 have HC1:=mk0 hc1
 clear hr1 hc1
 have HR2:=mk0 hr2
 have HC2:=mk0 hc2
 clear hr2 hc2
 have HB:=mk0 (Below.refl w.heap.size w)
 have H:((impl_areListed.f l0 l1).bind fun t661=>(if t661 = true then (impl_CommonOk.l0 k l0 l1 l2 l2 (l2.length:Int) 0) else (some false))) = some r:=h
 clear h
 replace H:=bE H
 obtain⟨t661,A4,H⟩:=H
 by_cases c5:t661 = true
 rotate_left
 ·replace c5:=Bool.eq_false_iff.mpr c5
  subst c5
  replace H:=iF H
  obtain rfl:=Option.some.inj H
  go_enter Try.func50,Try.ntmps50
  go_wp2_with (first|((with_reducible refine gate_callee (f:=62) rfl ?_);refine gL (some 11) Try.func62 #[.slice A0 l0.length c0,.slice A1 l1.length c1] ?_;(with_reducible refine (impl_areListed.calls _ _ l0 _ _ l1 false _ ?side1 ?side2 ?side3 ?side4 A4.out).mono ?_);(case side1=>exact kC HR0.out);(case side2=>exact HC0.out);(case side3=>exact kC HR1.out);(case side4=>exact HC1.out);rintro e w' ⟨rfl,⟨nd,rfl⟩⟩;refine⟨_,rfl,?_⟩))
  go_ret
  exact⟨eR,kB HB.out⟩
 subst c5
 replace H:=iT H
 have H':=mk0 H
 clear H
 go_enter Try.func50,Try.ntmps50
 go_wp2_with (first|((with_reducible refine gate_callee (f:=62) rfl ?_);refine gL (some 11) Try.func62 #[.slice A0 l0.length c0,.slice A1 l1.length c1] ?_;(with_reducible refine (impl_areListed.calls _ _ l0 _ _ l1 true _ ?side1 ?side2 ?side3 ?side4 A4.out).mono ?_);(case side1=>exact kC HR0.out);(case side2=>exact HC0.out);(case side3=>exact kC HR1.out);(case side4=>exact HC1.out);rintro e w' ⟨rfl,⟨nd,rfl⟩⟩;refine⟨_,rfl,?_⟩))
 go_loopg [15] k (fun kq v15 w'=>∃ (x15_1:Int),v15 = .int .i64 x15_1 ∧ Aside0 (impl_CommonOk.l0 kq l0 l1 l2 l2 (l2.length:Int) x15_1 = some r) ∧ Aside0 (kq ≤ k) ∧ Aside0 (Below w.heap.size w w'))
 case atStart=>exact⟨(0),eS,H',⟨Nat.le_refl _⟩,⟨kB HB.out⟩⟩
 case round =>
  clear H'
  try clear c1
  try clear c2
  try clear p2
  try clear c5
  obtain⟨x15_1,rfl,HA,HK1,HB⟩:=hrel
  cases gk with
  | zero=>exact absurd HA.out (by simp [impl_CommonOk.l0])
  | succ k1 =>
   have H:=HA.out
   clear HA
   simp only [impl_CommonOk.l0] at H
   by_cases c6:x15_1 < (l2.length:Int)
   rotate_left
   ·rw [if_neg c6] at H
    have c6b0:decide (x15_1 < (l2.length:Int)) = false:=decide_eq_false c6
    clear c6
    obtain rfl:=Option.some.inj H
    go_wp2
    go_ret
    exact⟨eR,kB HB.out⟩
   rw [if_pos c6] at H
   have c6b0:decide (x15_1 < (l2.length:Int)) = true:=decide_eq_true c6
   clear c6
   by_cases c7:0 ≤ x15_1
   rotate_left
   ·rw [if_neg c7] at H
    exact nn H
   rw [if_pos c7] at H
   have c7b0:decide (0 ≤ x15_1) = true:=decide_eq_true c7
   clear c7
   by_cases c8:x15_1 < (l2.length:Int)
   rotate_left
   ·rw [if_neg c8] at H
    exact nn H
   rw [if_pos c8] at H
   have c8b0:decide (x15_1 < (l2.length:Int)) = true:=decide_eq_true c8
   clear c8
   have HC9:=mk0 H
   clear H
   have p662:0 ≤ (x15_1:Int):=oD
   have q662:x15_1 < (l2.length:Int):=oD
   obtain⟨ad662,e662,hx662_0,hx662_1⟩:=at_T56 HR2.out x15_1 p662 q662
   cases e662
   replace hx662_0:=(HB.out.cell (World.block_lt_of_cell? w _ hx662_0)).trans hx662_0
   replace hx662_1:=(HB.out.cell (World.block_lt_of_cell? w _ hx662_1)).trans hx662_1
   replace p662:=eq_true p662
   replace q662:=eq_true q662
   go_upto_region 6 with (first|((with_reducible refine gate_dst (N:=8) rfl ?_);(try (refine gate_guard (by rfl) ?_;dsimp only));refine box_event ?hg (N:=8) ?hd (cs:=#[.int .i64 0,.int .i64 0]) (t:=56) ?hr ?_;(case hd=>rfl);(case hg=>rfl);(case hr=>first|(go_simp;done)|(go_simp;rfl));intro gb663 hg w10 hbox hb;have BK663:=mk0 (hbox);have GW663:=mk0 ((by rw [hg];exact (kZ HB.out):w.heap.size ≤ gb663));have GE663:=mk0 ((by rw [hg];exact (kZ HB.out):w.heap.size ≤ gb663));replace HB:=mk0 (kS HB.out hb);clear hb hbox hg;obtain⟨hcz11_0,hcz11_1,hfz11_0,hfz11_1⟩:=cz2 BK663.out))
   (try simp only [Act.put,sA,sO,sS])
   go_cut [74] (fun v74 wc=>∃ (kq:Nat) (x74_8:Bool),v74 = .bool x74_8 ∧ Aside0 (impl_CommonOk.j1 kq l0 l1 l2 l2 (l2.length:Int) x15_1 x74_8 = some r) ∧ Aside0 (kq ≤ k1) ∧ Aside0 (wc.heap[gb663]? = some (.cells #[.int .i64 ((rd_T56 l2 x15_1).f0),.int .i64 ((rd_T56 l2 x15_1).f1)] 56 (0,0))) ∧ Aside0 (Below w.heap.size w wc))
   case first =>
    have H:=HC9.out
    clear HC9
    replace H:=bE H
    obtain⟨t664,A12,H⟩:=H
    by_cases c13:t664 = true
    rotate_left
    ·replace c13:=Bool.eq_false_iff.mpr c13
     subst c13
     replace H:=iF H
     have H':=mk0 H
     clear H
     try go_wp2
     have n0_:Aside0 (((w10.setCell ⟨gb663,0,none⟩ (.int .i64 ((rd_T56 l2 x15_1).f0))).setCell ⟨gb663,1,none⟩ (.int .i64 ((rd_T56 l2 x15_1).f1))).heap[gb663]? = some (.cells #[.int .i64 ((rd_T56 l2 x15_1).f0),.int .i64 ((rd_T56 l2 x15_1).f1)] 56 (0,0))):=⟨by (with_reducible repeat (first|apply nB|apply dB|apply aB));refine blk_put (cs:=#[.int .i64 ((rd_T56 l2 x15_1).f0),.int .i64 0]) ?_ 1 _ rfl;(with_reducible repeat (first|apply nB|apply dB|apply aB));refine blk_put (cs:=#[.int .i64 0,.int .i64 0]) ?_ 0 _ rfl;(with_reducible repeat (first|apply nB|apply dB|apply aB));exact BK663.out⟩
     have n1_:Aside0 (Below w.heap.size w ((w10.setCell ⟨gb663,0,none⟩ (.int .i64 ((rd_T56 l2 x15_1).f0))).setCell ⟨gb663,1,none⟩ (.int .i64 ((rd_T56 l2 x15_1).f1)))):=⟨kB HB.out⟩
     (try clear BK663)
     (try clear HB)
     generalize ((w10.setCell ⟨gb663,0,none⟩ (.int .i64 ((rd_T56 l2 x15_1).f0))).setCell ⟨gb663,1,none⟩ (.int .i64 ((rd_T56 l2 x15_1).f1))) = w36 at n0_ n1_ ⊢
     have BK663:=n0_
     have HB:=n1_
     clear n0_ n1_
     replace BK663:=mk0 (dB BK663.out)
     replace HB:=mk0 (dZ HB.out)
     refine start_ (n:=55) (S:=fun w'=>w'.cell? ⟨gb663,0,none⟩ = some (.int .i64 ((rd_T56 l2 x15_1).f0)) ∧ w'.cell? ⟨gb663,1,none⟩ = some (.int .i64 ((rd_T56 l2 x15_1).f1))) (ds:=[]) (bm 55 0) (by kernel_rfl) rfl (by kernel_rfl) (ck2 BK663.out) (fun hHeld=>?_);refine with_tabW impl_CommonOk.tab6 impl_CommonOk.bits6 (fun HT_ HW_=>?_)
     generalize w36.drew = w37 at BK663 HB hHeld ⊢
     refine pU 0 (some 20) (bm 55 1) HT_ ?_
     refine pU 2 (some 22) (bm 55 5) HT_ ?_
     refine pU 3 (some 23) (bm 55 13) HT_ ?_
     refine pU 4 (some 24) (bm 55 29) HT_ ?_
     refine pT 1 (some 21) (bm 55 31) HT_ HW_ hHeld ?_
     refine pO 5 (some 25) (bm 55 63) HT_ (fun K hK=>?_)
     refine gO Try.func61 #[.int .i64 ((rd_T56 l2 x15_1).f0),.int .i64 0,.int .i64 (wrap64 ((l0.length:Int) - 1))] ?_
     with_reducible refine (impl_within.calls ((rd_T56 l2 x15_1).f0) 0 (wrap64 ((l0.length:Int) - 1)) false _ A12.out).mono ?_
     rintro e w' ⟨rfl,⟨nd,rfl⟩⟩
     refine⟨_,rfl,?_⟩
     refine hK.out _ _ (ck2 BK663.out) (fun hHeld=>?_)
     clear hK K
     refine pN (some 25) ?_
     refine pU 6 (some 26) (bm 55 127) HT_ ?_
     refine pU 7 (some 27) (bm 55 255) HT_ ?_
     refine pX 8 (some 28) (bm 55 511) HT_ ?_
     refine pX 9 (some 29) (bm 55 1023) HT_ ?_
     refine pX 10 (some 30) (bm 55 2047) HT_ ?_
     refine pX 11 (some 31) (bm 55 4095) HT_ ?_
     refine pX 12 (some 32) (bm 55 8191) HT_ ?_
     refine pX 13 (some 33) (bm 55 16383) HT_ ?_
     refine pX 14 (some 34) (bm 55 32767) HT_ ?_
     refine pU 15 (some 35) (bm 55 65535) HT_ ?_
     refine pU 16 (some 36) (bm 55 131071) HT_ ?_
     refine pX 17 (some 37) (bm 55 262143) HT_ ?_
     refine pX 18 (some 38) (bm 55 524287) HT_ ?_
     refine pX 19 (some 39) (bm 55 1048575) HT_ ?_
     refine pX 20 (some 40) (bm 55 2097151) HT_ ?_
     refine pX 21 (some 41) (bm 55 4194303) HT_ ?_
     refine pX 22 (some 42) (bm 55 8388607) HT_ ?_
     refine pX 23 (some 43) (bm 55 16777215) HT_ ?_
     refine pX 24 (some 44) (bm 55 33554431) HT_ ?_
     refine pX 25 (some 45) (bm 55 67108863) HT_ ?_
     refine pX 26 (some 46) (bm 55 134217727) HT_ ?_
     refine pX 27 (some 47) (bm 55 268435455) HT_ ?_
     refine pU 28 (some 48) (bm 55 536870911) HT_ ?_
     refine pU 29 (some 49) (bm 55 1073741823) HT_ ?_
     refine pX 30 (some 50) (bm 55 2147483647) HT_ ?_
     refine pX 31 (some 51) (bm 55 4294967295) HT_ ?_
     refine pX 32 (some 52) (bm 55 8589934591) HT_ ?_
     refine pX 33 (some 53) (bm 55 17179869183) HT_ ?_
     refine pX 34 (some 54) (bm 55 34359738367) HT_ ?_
     refine pX 35 (some 55) (bm 55 68719476735) HT_ ?_
     refine pX 36 (some 56) (bm 55 137438953471) HT_ ?_
     refine pX 37 (some 57) (bm 55 274877906943) HT_ ?_
     refine pX 38 (some 58) (bm 55 549755813887) HT_ ?_
     refine pX 39 (some 59) (bm 55 1099511627775) HT_ ?_
     refine pX 40 (some 60) (bm 55 2199023255551) HT_ ?_
     refine pX 41 (some 61) (bm 55 4398046511103) HT_ ?_
     refine pX 42 (some 62) (bm 55 8796093022207) HT_ ?_
     refine pX 43 (some 63) (bm 55 17592186044415) HT_ ?_
     refine pX 44 (some 64) (bm 55 35184372088831) HT_ ?_
     refine pX 45 (some 65) (bm 55 70368744177663) HT_ ?_
     refine pX 46 (some 66) (bm 55 140737488355327) HT_ ?_
     refine pX 47 (some 67) (bm 55 281474976710655) HT_ ?_
     refine pX 48 (some 68) (bm 55 562949953421311) HT_ ?_
     refine pX 49 (some 69) (bm 55 1125899906842623) HT_ ?_
     refine pX 50 (some 70) (bm 55 2251799813685247) HT_ ?_
     refine pX 51 (some 71) (bm 55 4503599627370495) HT_ ?_
     refine pX 52 (some 72) (bm 55 9007199254740991) HT_ ?_
     refine pX 53 (some 73) (bm 55 18014398509481983) HT_ ?_
     refine pU 54 (some 74) (bm 55 36028797018963967) HT_ ?_
     refine pD HT_ ?_
     try go_wp2
     go_meet
     case rel=>exact⟨_,(true),eS,H',⟨by have:=HK1.out;first|omega|exact Nat.le_refl _⟩,⟨kN BK663.out⟩,⟨kB HB.out⟩⟩
    subst c13
    replace H:=iT H
    replace H:=bE H
    obtain⟨t665,A14,H⟩:=H
    by_cases c15:t665 = true
    rotate_left
    ·replace c15:=Bool.eq_false_iff.mpr c15
     subst c15
     replace H:=iF H
     have H':=mk0 H
     clear H
     try go_wp2
     have n0_:Aside0 (((w10.setCell ⟨gb663,0,none⟩ (.int .i64 ((rd_T56 l2 x15_1).f0))).setCell ⟨gb663,1,none⟩ (.int .i64 ((rd_T56 l2 x15_1).f1))).heap[gb663]? = some (.cells #[.int .i64 ((rd_T56 l2 x15_1).f0),.int .i64 ((rd_T56 l2 x15_1).f1)] 56 (0,0))):=⟨by (with_reducible repeat (first|apply nB|apply dB|apply aB));refine blk_put (cs:=#[.int .i64 ((rd_T56 l2 x15_1).f0),.int .i64 0]) ?_ 1 _ rfl;(with_reducible repeat (first|apply nB|apply dB|apply aB));refine blk_put (cs:=#[.int .i64 0,.int .i64 0]) ?_ 0 _ rfl;(with_reducible repeat (first|apply nB|apply dB|apply aB));exact BK663.out⟩
     have n1_:Aside0 (Below w.heap.size w ((w10.setCell ⟨gb663,0,none⟩ (.int .i64 ((rd_T56 l2 x15_1).f0))).setCell ⟨gb663,1,none⟩ (.int .i64 ((rd_T56 l2 x15_1).f1)))):=⟨kB HB.out⟩
     (try clear BK663)
     (try clear HB)
     generalize ((w10.setCell ⟨gb663,0,none⟩ (.int .i64 ((rd_T56 l2 x15_1).f0))).setCell ⟨gb663,1,none⟩ (.int .i64 ((rd_T56 l2 x15_1).f1))) = w34 at n0_ n1_ ⊢
     have BK663:=n0_
     have HB:=n1_
     clear n0_ n1_
     replace BK663:=mk0 (dB BK663.out)
     replace HB:=mk0 (dZ HB.out)
     refine start_ (n:=55) (S:=fun w'=>w'.cell? ⟨gb663,0,none⟩ = some (.int .i64 ((rd_T56 l2 x15_1).f0)) ∧ w'.cell? ⟨gb663,1,none⟩ = some (.int .i64 ((rd_T56 l2 x15_1).f1))) (ds:=[]) (bm 55 0) (by kernel_rfl) rfl (by kernel_rfl) (ck2 BK663.out) (fun hHeld=>?_);refine with_tabW impl_CommonOk.tab6 impl_CommonOk.bits6 (fun HT_ HW_=>?_)
     generalize w34.drew = w35 at BK663 HB hHeld ⊢
     refine pU 0 (some 20) (bm 55 1) HT_ ?_
     refine pU 2 (some 22) (bm 55 5) HT_ ?_
     refine pU 3 (some 23) (bm 55 13) HT_ ?_
     refine pU 4 (some 24) (bm 55 29) HT_ ?_
     refine pT 1 (some 21) (bm 55 31) HT_ HW_ hHeld ?_
     refine pO 5 (some 25) (bm 55 63) HT_ (fun K hK=>?_)
     refine gO Try.func61 #[.int .i64 ((rd_T56 l2 x15_1).f0),.int .i64 0,.int .i64 (wrap64 ((l0.length:Int) - 1))] ?_
     with_reducible refine (impl_within.calls ((rd_T56 l2 x15_1).f0) 0 (wrap64 ((l0.length:Int) - 1)) true _ A12.out).mono ?_
     rintro e w' ⟨rfl,⟨nd,rfl⟩⟩
     refine⟨_,rfl,?_⟩
     refine hK.out _ _ (ck2 BK663.out) (fun hHeld=>?_)
     clear hK K
     refine pN (some 25) ?_
     refine pU 6 (some 26) (bm 55 127) HT_ ?_
     refine pU 7 (some 27) (bm 55 255) HT_ ?_
     refine pU 8 (some 28) (bm 55 511) HT_ ?_
     refine pU 10 (some 30) (bm 55 1535) HT_ ?_
     refine pU 11 (some 31) (bm 55 3583) HT_ ?_
     refine pU 12 (some 32) (bm 55 7679) HT_ ?_
     refine pT 9 (some 29) (bm 55 8191) HT_ HW_ hHeld ?_
     refine pO 13 (some 33) (bm 55 16383) HT_ (fun K hK=>?_)
     refine gO Try.func61 #[.int .i64 ((rd_T56 l2 x15_1).f1),.int .i64 0,.int .i64 (wrap64 ((l1.length:Int) - 1))] ?_
     with_reducible refine (impl_within.calls ((rd_T56 l2 x15_1).f1) 0 (wrap64 ((l1.length:Int) - 1)) false _ A14.out).mono ?_
     rintro e w' ⟨rfl,⟨nd,rfl⟩⟩
     refine⟨_,rfl,?_⟩
     refine hK.out _ _ (ck2 BK663.out) (fun hHeld=>?_)
     clear hK K
     refine pN (some 33) ?_
     refine pU 14 (some 34) (bm 55 32767) HT_ ?_
     refine pU 15 (some 35) (bm 55 65535) HT_ ?_
     refine pU 16 (some 36) (bm 55 131071) HT_ ?_
     refine pX 17 (some 37) (bm 55 262143) HT_ ?_
     refine pX 18 (some 38) (bm 55 524287) HT_ ?_
     refine pX 19 (some 39) (bm 55 1048575) HT_ ?_
     refine pX 20 (some 40) (bm 55 2097151) HT_ ?_
     refine pX 21 (some 41) (bm 55 4194303) HT_ ?_
     refine pX 22 (some 42) (bm 55 8388607) HT_ ?_
     refine pX 23 (some 43) (bm 55 16777215) HT_ ?_
     refine pX 24 (some 44) (bm 55 33554431) HT_ ?_
     refine pX 25 (some 45) (bm 55 67108863) HT_ ?_
     refine pX 26 (some 46) (bm 55 134217727) HT_ ?_
     refine pX 27 (some 47) (bm 55 268435455) HT_ ?_
     refine pU 28 (some 48) (bm 55 536870911) HT_ ?_
     refine pU 29 (some 49) (bm 55 1073741823) HT_ ?_
     refine pX 30 (some 50) (bm 55 2147483647) HT_ ?_
     refine pX 31 (some 51) (bm 55 4294967295) HT_ ?_
     refine pX 32 (some 52) (bm 55 8589934591) HT_ ?_
     refine pX 33 (some 53) (bm 55 17179869183) HT_ ?_
     refine pX 34 (some 54) (bm 55 34359738367) HT_ ?_
     refine pX 35 (some 55) (bm 55 68719476735) HT_ ?_
     refine pX 36 (some 56) (bm 55 137438953471) HT_ ?_
     refine pX 37 (some 57) (bm 55 274877906943) HT_ ?_
     refine pX 38 (some 58) (bm 55 549755813887) HT_ ?_
     refine pX 39 (some 59) (bm 55 1099511627775) HT_ ?_
     refine pX 40 (some 60) (bm 55 2199023255551) HT_ ?_
     refine pX 41 (some 61) (bm 55 4398046511103) HT_ ?_
     refine pX 42 (some 62) (bm 55 8796093022207) HT_ ?_
     refine pX 43 (some 63) (bm 55 17592186044415) HT_ ?_
     refine pX 44 (some 64) (bm 55 35184372088831) HT_ ?_
     refine pX 45 (some 65) (bm 55 70368744177663) HT_ ?_
     refine pX 46 (some 66) (bm 55 140737488355327) HT_ ?_
     refine pX 47 (some 67) (bm 55 281474976710655) HT_ ?_
     refine pX 48 (some 68) (bm 55 562949953421311) HT_ ?_
     refine pX 49 (some 69) (bm 55 1125899906842623) HT_ ?_
     refine pX 50 (some 70) (bm 55 2251799813685247) HT_ ?_
     refine pX 51 (some 71) (bm 55 4503599627370495) HT_ ?_
     refine pX 52 (some 72) (bm 55 9007199254740991) HT_ ?_
     refine pX 53 (some 73) (bm 55 18014398509481983) HT_ ?_
     refine pU 54 (some 74) (bm 55 36028797018963967) HT_ ?_
     refine pD HT_ ?_
     try go_wp2
     go_meet
     case rel=>exact⟨_,(true),eS,H',⟨by have:=HK1.out;first|omega|exact Nat.le_refl _⟩,⟨kN BK663.out⟩,⟨kB HB.out⟩⟩
    subst c15
    replace H:=iT H
    by_cases c16:0 ≤ ((rd_T56 l2 x15_1).f0)
    rotate_left
    ·rw [if_neg c16] at H
     exact nn H
    rw [if_pos c16] at H
    have c16b0:decide (0 ≤ ((rd_T56 l2 x15_1).f0)) = true:=decide_eq_true c16
    clear c16
    (first|rw [c16b0]|(simp only [i64_w,i32_w];rw [c16b0])|skip)
    by_cases c17:((rd_T56 l2 x15_1).f0) < (l0.length:Int)
    rotate_left
    ·rw [if_neg c17] at H
     exact nn H
    rw [if_pos c17] at H
    have c17b0:decide (((rd_T56 l2 x15_1).f0) < (l0.length:Int)) = true:=decide_eq_true c17
    clear c17
    by_cases c18:0 ≤ ((rd_T56 l2 x15_1).f1)
    rotate_left
    ·rw [if_neg c18] at H
     exact nn H
    rw [if_pos c18] at H
    have c18b0:decide (0 ≤ ((rd_T56 l2 x15_1).f1)) = true:=decide_eq_true c18
    clear c18
    by_cases c19:((rd_T56 l2 x15_1).f1) < (l1.length:Int)
    rotate_left
    ·rw [if_neg c19] at H
     exact nn H
    rw [if_pos c19] at H
    have c19b0:decide (((rd_T56 l2 x15_1).f1) < (l1.length:Int)) = true:=decide_eq_true c19
    clear c19
    by_cases c20:(rd l0 ((rd_T56 l2 x15_1).f0)) = (rd l1 ((rd_T56 l2 x15_1).f1))
    rotate_left
    ·rw [if_neg c20] at H
     have c20b0:((rd l0 ((rd_T56 l2 x15_1).f0)) == (rd l1 ((rd_T56 l2 x15_1).f1))) = false:=beq_eq_false_iff_ne.mpr c20
     have c20b1:((rd l0 ((rd_T56 l2 x15_1).f0)) != (rd l1 ((rd_T56 l2 x15_1).f1))) = true:=bne_iff_ne.mpr c20
     have H':=mk0 H
     clear H
     try go_wp2
     have n0_:Aside0 (((w10.setCell ⟨gb663,0,none⟩ (.int .i64 ((rd_T56 l2 x15_1).f0))).setCell ⟨gb663,1,none⟩ (.int .i64 ((rd_T56 l2 x15_1).f1))).heap[gb663]? = some (.cells #[.int .i64 ((rd_T56 l2 x15_1).f0),.int .i64 ((rd_T56 l2 x15_1).f1)] 56 (0,0))):=⟨by (with_reducible repeat (first|apply nB|apply dB|apply aB));refine blk_put (cs:=#[.int .i64 ((rd_T56 l2 x15_1).f0),.int .i64 0]) ?_ 1 _ rfl;(with_reducible repeat (first|apply nB|apply dB|apply aB));refine blk_put (cs:=#[.int .i64 0,.int .i64 0]) ?_ 0 _ rfl;(with_reducible repeat (first|apply nB|apply dB|apply aB));exact BK663.out⟩
     have n1_:Aside0 (Below w.heap.size w ((w10.setCell ⟨gb663,0,none⟩ (.int .i64 ((rd_T56 l2 x15_1).f0))).setCell ⟨gb663,1,none⟩ (.int .i64 ((rd_T56 l2 x15_1).f1)))):=⟨kB HB.out⟩
     (try clear BK663)
     (try clear HB)
     generalize ((w10.setCell ⟨gb663,0,none⟩ (.int .i64 ((rd_T56 l2 x15_1).f0))).setCell ⟨gb663,1,none⟩ (.int .i64 ((rd_T56 l2 x15_1).f1))) = w32 at n0_ n1_ ⊢
     have BK663:=n0_
     have HB:=n1_
     clear n0_ n1_
     replace BK663:=mk0 (dB BK663.out)
     replace HB:=mk0 (dZ HB.out)
     have p666:0 ≤ (((rd_T56 l2 x15_1).f0):Int):=oD
     have q666:((rd_T56 l2 x15_1).f0) < (l0.length:Int):=oD
     obtain⟨ad666,e666,hx666_0⟩:=Kd.at_int HR0.out ((rd_T56 l2 x15_1).f0) p666 q666
     have hw666_0:=hx666_0
     cases e666
     replace hx666_0:=(HB.out.cell (World.block_lt_of_cell? w _ hx666_0)).trans hx666_0
     replace p666:=eq_true p666
     replace q666:=eq_true q666
     have p667:0 ≤ (((rd_T56 l2 x15_1).f1):Int):=oD
     have q667:((rd_T56 l2 x15_1).f1) < (l1.length:Int):=oD
     obtain⟨ad667,e667,hx667_0⟩:=Kd.at_int HR1.out ((rd_T56 l2 x15_1).f1) p667 q667
     have hw667_0:=hx667_0
     cases e667
     replace hx667_0:=(HB.out.cell (World.block_lt_of_cell? w _ hx667_0)).trans hx667_0
     replace p667:=eq_true p667
     replace q667:=eq_true q667
     refine start_ (n:=55) (S:=fun w'=>w'.cell? ⟨gb663,0,none⟩ = some (.int .i64 ((rd_T56 l2 x15_1).f0)) ∧ w'.cell? ⟨gb663,1,none⟩ = some (.int .i64 ((rd_T56 l2 x15_1).f1)) ∧ w'.cell? (ad666.add (((rd_T56 l2 x15_1).f0)).toNat) = some (.int .i64 (rd l0 ((rd_T56 l2 x15_1).f0))) ∧ w'.cell? (ad667.add (((rd_T56 l2 x15_1).f1)).toNat) = some (.int .i64 (rd l1 ((rd_T56 l2 x15_1).f1)))) (ds:=[]) (bm 55 0) (by kernel_rfl) rfl (by kernel_rfl) ⟨(blk_cell BK663.out 0).trans rfl,(blk_cell BK663.out 1).trans rfl,((HB.out.cell (World.block_lt_of_cell? w _ hw666_0)).trans hw666_0),((HB.out.cell (World.block_lt_of_cell? w _ hw667_0)).trans hw667_0)⟩ (fun hHeld=>?_);refine with_tabW impl_CommonOk.tab6 impl_CommonOk.bits6 (fun HT_ HW_=>?_)
     generalize w32.drew = w33 at BK663 HB hx666_0 hx667_0 hHeld ⊢
     refine pU 0 (some 20) (bm 55 1) HT_ ?_
     refine pU 2 (some 22) (bm 55 5) HT_ ?_
     refine pU 3 (some 23) (bm 55 13) HT_ ?_
     refine pU 4 (some 24) (bm 55 29) HT_ ?_
     refine pT 1 (some 21) (bm 55 31) HT_ HW_ hHeld ?_
     refine pO 5 (some 25) (bm 55 63) HT_ (fun K hK=>?_)
     refine gO Try.func61 #[.int .i64 ((rd_T56 l2 x15_1).f0),.int .i64 0,.int .i64 (wrap64 ((l0.length:Int) - 1))] ?_
     with_reducible refine (impl_within.calls ((rd_T56 l2 x15_1).f0) 0 (wrap64 ((l0.length:Int) - 1)) true _ A12.out).mono ?_
     rintro e w' ⟨rfl,⟨nd,rfl⟩⟩
     refine⟨_,rfl,?_⟩
     refine hK.out _ _ ⟨(blk_cell BK663.out 0).trans rfl,(blk_cell BK663.out 1).trans rfl,((HB.out.cell (World.block_lt_of_cell? w _ hw666_0)).trans hw666_0),((HB.out.cell (World.block_lt_of_cell? w _ hw667_0)).trans hw667_0)⟩ (fun hHeld=>?_)
     clear hK K
     refine pN (some 25) ?_
     refine pU 6 (some 26) (bm 55 127) HT_ ?_
     refine pU 7 (some 27) (bm 55 255) HT_ ?_
     refine pU 8 (some 28) (bm 55 511) HT_ ?_
     refine pU 10 (some 30) (bm 55 1535) HT_ ?_
     refine pU 11 (some 31) (bm 55 3583) HT_ ?_
     refine pU 12 (some 32) (bm 55 7679) HT_ ?_
     refine pT 9 (some 29) (bm 55 8191) HT_ HW_ hHeld ?_
     refine pO 13 (some 33) (bm 55 16383) HT_ (fun K hK=>?_)
     refine gO Try.func61 #[.int .i64 ((rd_T56 l2 x15_1).f1),.int .i64 0,.int .i64 (wrap64 ((l1.length:Int) - 1))] ?_
     with_reducible refine (impl_within.calls ((rd_T56 l2 x15_1).f1) 0 (wrap64 ((l1.length:Int) - 1)) true _ A14.out).mono ?_
     rintro e w' ⟨rfl,⟨nd,rfl⟩⟩
     refine⟨_,rfl,?_⟩
     refine hK.out _ _ ⟨(blk_cell BK663.out 0).trans rfl,(blk_cell BK663.out 1).trans rfl,((HB.out.cell (World.block_lt_of_cell? w _ hw666_0)).trans hw666_0),((HB.out.cell (World.block_lt_of_cell? w _ hw667_0)).trans hw667_0)⟩ (fun hHeld=>?_)
     clear hK K
     refine pN (some 33) ?_
     refine pU 14 (some 34) (bm 55 32767) HT_ ?_
     refine pU 15 (some 35) (bm 55 65535) HT_ ?_
     refine pU 16 (some 36) (bm 55 131071) HT_ ?_
     refine pU 17 (some 37) (bm 55 262143) HT_ ?_
     refine pU 18 (some 38) (bm 55 524287) HT_ ?_
     refine pU 22 (some 42) (bm 55 4718591) HT_ ?_
     refine pU 23 (some 43) (bm 55 13107199) HT_ ?_
     refine pT 19 (some 39) (bm 55 13631487) HT_ HW_ hHeld ?_
     refine pU 20 (some 40) (bm 55 14680063) HT_ ?_
     refine pT 21 (some 41) (bm 55 16777215) HT_ HW_ hHeld ?_
     refine pT 24 (some 44) (bm 55 33554431) HT_ HW_ hHeld ?_
     refine pU 25 (some 45) (bm 55 67108863) HT_ ?_
     refine pT 26 (some 46) (bm 55 134217727) HT_ HW_ hHeld ?_
     refine pU 27 (some 47) (bm 55 268435455) HT_ ?_
     refine pU 28 (some 48) (bm 55 536870911) HT_ ?_
     refine pU 29 (some 49) (bm 55 1073741823) HT_ ?_
     refine pX 30 (some 50) (bm 55 2147483647) HT_ ?_
     refine pX 31 (some 51) (bm 55 4294967295) HT_ ?_
     refine pX 32 (some 52) (bm 55 8589934591) HT_ ?_
     refine pX 33 (some 53) (bm 55 17179869183) HT_ ?_
     refine pX 34 (some 54) (bm 55 34359738367) HT_ ?_
     refine pX 35 (some 55) (bm 55 68719476735) HT_ ?_
     refine pX 36 (some 56) (bm 55 137438953471) HT_ ?_
     refine pX 37 (some 57) (bm 55 274877906943) HT_ ?_
     refine pX 38 (some 58) (bm 55 549755813887) HT_ ?_
     refine pX 39 (some 59) (bm 55 1099511627775) HT_ ?_
     refine pX 40 (some 60) (bm 55 2199023255551) HT_ ?_
     refine pX 41 (some 61) (bm 55 4398046511103) HT_ ?_
     refine pX 42 (some 62) (bm 55 8796093022207) HT_ ?_
     refine pX 43 (some 63) (bm 55 17592186044415) HT_ ?_
     refine pX 44 (some 64) (bm 55 35184372088831) HT_ ?_
     refine pX 45 (some 65) (bm 55 70368744177663) HT_ ?_
     refine pX 46 (some 66) (bm 55 140737488355327) HT_ ?_
     refine pX 47 (some 67) (bm 55 281474976710655) HT_ ?_
     refine pX 48 (some 68) (bm 55 562949953421311) HT_ ?_
     refine pX 49 (some 69) (bm 55 1125899906842623) HT_ ?_
     refine pX 50 (some 70) (bm 55 2251799813685247) HT_ ?_
     refine pX 51 (some 71) (bm 55 4503599627370495) HT_ ?_
     refine pX 52 (some 72) (bm 55 9007199254740991) HT_ ?_
     refine pX 53 (some 73) (bm 55 18014398509481983) HT_ ?_
     refine pU 54 (some 74) (bm 55 36028797018963967) HT_ ?_
     refine pD HT_ ?_
     try go_wp2
     go_meet
     case rel=>exact⟨_,(true),eS,H',⟨by have:=HK1.out;first|omega|exact Nat.le_refl _⟩,⟨kN BK663.out⟩,⟨kB HB.out⟩⟩
    rw [if_pos c20] at H
    have c20b0:((rd l0 ((rd_T56 l2 x15_1).f0)) == (rd l1 ((rd_T56 l2 x15_1).f1))) = true:=beq_iff_eq.mpr c20
    have c20b1:((rd l0 ((rd_T56 l2 x15_1).f0)) != (rd l1 ((rd_T56 l2 x15_1).f1))) = false:=bne_eq_false_iff_eq.mpr c20
    clear c20
    by_cases c21:x15_1 > 0
    rotate_left
    ·rw [if_neg c21] at H
     have c21b0:decide (0 < x15_1) = false:=decide_eq_false c21
     clear c21
     have H':=mk0 H
     clear H
     try go_wp2
     have n0_:Aside0 (((w10.setCell ⟨gb663,0,none⟩ (.int .i64 ((rd_T56 l2 x15_1).f0))).setCell ⟨gb663,1,none⟩ (.int .i64 ((rd_T56 l2 x15_1).f1))).heap[gb663]? = some (.cells #[.int .i64 ((rd_T56 l2 x15_1).f0),.int .i64 ((rd_T56 l2 x15_1).f1)] 56 (0,0))):=⟨by (with_reducible repeat (first|apply nB|apply dB|apply aB));refine blk_put (cs:=#[.int .i64 ((rd_T56 l2 x15_1).f0),.int .i64 0]) ?_ 1 _ rfl;(with_reducible repeat (first|apply nB|apply dB|apply aB));refine blk_put (cs:=#[.int .i64 0,.int .i64 0]) ?_ 0 _ rfl;(with_reducible repeat (first|apply nB|apply dB|apply aB));exact BK663.out⟩
     have n1_:Aside0 (Below w.heap.size w ((w10.setCell ⟨gb663,0,none⟩ (.int .i64 ((rd_T56 l2 x15_1).f0))).setCell ⟨gb663,1,none⟩ (.int .i64 ((rd_T56 l2 x15_1).f1)))):=⟨kB HB.out⟩
     (try clear BK663)
     (try clear HB)
     generalize ((w10.setCell ⟨gb663,0,none⟩ (.int .i64 ((rd_T56 l2 x15_1).f0))).setCell ⟨gb663,1,none⟩ (.int .i64 ((rd_T56 l2 x15_1).f1))) = w30 at n0_ n1_ ⊢
     have BK663:=n0_
     have HB:=n1_
     clear n0_ n1_
     replace BK663:=mk0 (dB BK663.out)
     replace HB:=mk0 (dZ HB.out)
     have p666:0 ≤ (((rd_T56 l2 x15_1).f0):Int):=oD
     have q666:((rd_T56 l2 x15_1).f0) < (l0.length:Int):=oD
     obtain⟨ad666,e666,hx666_0⟩:=Kd.at_int HR0.out ((rd_T56 l2 x15_1).f0) p666 q666
     have hw666_0:=hx666_0
     cases e666
     replace hx666_0:=(HB.out.cell (World.block_lt_of_cell? w _ hx666_0)).trans hx666_0
     replace p666:=eq_true p666
     replace q666:=eq_true q666
     have p667:0 ≤ (((rd_T56 l2 x15_1).f1):Int):=oD
     have q667:((rd_T56 l2 x15_1).f1) < (l1.length:Int):=oD
     obtain⟨ad667,e667,hx667_0⟩:=Kd.at_int HR1.out ((rd_T56 l2 x15_1).f1) p667 q667
     have hw667_0:=hx667_0
     cases e667
     replace hx667_0:=(HB.out.cell (World.block_lt_of_cell? w _ hx667_0)).trans hx667_0
     replace p667:=eq_true p667
     replace q667:=eq_true q667
     refine start_ (n:=55) (S:=fun w'=>w'.cell? ⟨gb663,0,none⟩ = some (.int .i64 ((rd_T56 l2 x15_1).f0)) ∧ w'.cell? ⟨gb663,1,none⟩ = some (.int .i64 ((rd_T56 l2 x15_1).f1)) ∧ w'.cell? (ad666.add (((rd_T56 l2 x15_1).f0)).toNat) = some (.int .i64 (rd l0 ((rd_T56 l2 x15_1).f0))) ∧ w'.cell? (ad667.add (((rd_T56 l2 x15_1).f1)).toNat) = some (.int .i64 (rd l1 ((rd_T56 l2 x15_1).f1)))) (ds:=[]) (bm 55 0) (by kernel_rfl) rfl (by kernel_rfl) ⟨(blk_cell BK663.out 0).trans rfl,(blk_cell BK663.out 1).trans rfl,((HB.out.cell (World.block_lt_of_cell? w _ hw666_0)).trans hw666_0),((HB.out.cell (World.block_lt_of_cell? w _ hw667_0)).trans hw667_0)⟩ (fun hHeld=>?_);refine with_tabW impl_CommonOk.tab6 impl_CommonOk.bits6 (fun HT_ HW_=>?_)
     generalize w30.drew = w31 at BK663 HB hx666_0 hx667_0 hHeld ⊢
     refine pU 0 (some 20) (bm 55 1) HT_ ?_
     refine pU 2 (some 22) (bm 55 5) HT_ ?_
     refine pU 3 (some 23) (bm 55 13) HT_ ?_
     refine pU 4 (some 24) (bm 55 29) HT_ ?_
     refine pT 1 (some 21) (bm 55 31) HT_ HW_ hHeld ?_
     refine pO 5 (some 25) (bm 55 63) HT_ (fun K hK=>?_)
     refine gO Try.func61 #[.int .i64 ((rd_T56 l2 x15_1).f0),.int .i64 0,.int .i64 (wrap64 ((l0.length:Int) - 1))] ?_
     with_reducible refine (impl_within.calls ((rd_T56 l2 x15_1).f0) 0 (wrap64 ((l0.length:Int) - 1)) true _ A12.out).mono ?_
     rintro e w' ⟨rfl,⟨nd,rfl⟩⟩
     refine⟨_,rfl,?_⟩
     refine hK.out _ _ ⟨(blk_cell BK663.out 0).trans rfl,(blk_cell BK663.out 1).trans rfl,((HB.out.cell (World.block_lt_of_cell? w _ hw666_0)).trans hw666_0),((HB.out.cell (World.block_lt_of_cell? w _ hw667_0)).trans hw667_0)⟩ (fun hHeld=>?_)
     clear hK K
     refine pN (some 25) ?_
     refine pU 6 (some 26) (bm 55 127) HT_ ?_
     refine pU 7 (some 27) (bm 55 255) HT_ ?_
     refine pU 8 (some 28) (bm 55 511) HT_ ?_
     refine pU 10 (some 30) (bm 55 1535) HT_ ?_
     refine pU 11 (some 31) (bm 55 3583) HT_ ?_
     refine pU 12 (some 32) (bm 55 7679) HT_ ?_
     refine pT 9 (some 29) (bm 55 8191) HT_ HW_ hHeld ?_
     refine pO 13 (some 33) (bm 55 16383) HT_ (fun K hK=>?_)
     refine gO Try.func61 #[.int .i64 ((rd_T56 l2 x15_1).f1),.int .i64 0,.int .i64 (wrap64 ((l1.length:Int) - 1))] ?_
     with_reducible refine (impl_within.calls ((rd_T56 l2 x15_1).f1) 0 (wrap64 ((l1.length:Int) - 1)) true _ A14.out).mono ?_
     rintro e w' ⟨rfl,⟨nd,rfl⟩⟩
     refine⟨_,rfl,?_⟩
     refine hK.out _ _ ⟨(blk_cell BK663.out 0).trans rfl,(blk_cell BK663.out 1).trans rfl,((HB.out.cell (World.block_lt_of_cell? w _ hw666_0)).trans hw666_0),((HB.out.cell (World.block_lt_of_cell? w _ hw667_0)).trans hw667_0)⟩ (fun hHeld=>?_)
     clear hK K
     refine pN (some 33) ?_
     refine pU 14 (some 34) (bm 55 32767) HT_ ?_
     refine pU 15 (some 35) (bm 55 65535) HT_ ?_
     refine pU 16 (some 36) (bm 55 131071) HT_ ?_
     refine pU 17 (some 37) (bm 55 262143) HT_ ?_
     refine pU 18 (some 38) (bm 55 524287) HT_ ?_
     refine pU 22 (some 42) (bm 55 4718591) HT_ ?_
     refine pU 23 (some 43) (bm 55 13107199) HT_ ?_
     refine pT 19 (some 39) (bm 55 13631487) HT_ HW_ hHeld ?_
     refine pU 20 (some 40) (bm 55 14680063) HT_ ?_
     refine pT 21 (some 41) (bm 55 16777215) HT_ HW_ hHeld ?_
     refine pT 24 (some 44) (bm 55 33554431) HT_ HW_ hHeld ?_
     refine pU 25 (some 45) (bm 55 67108863) HT_ ?_
     refine pT 26 (some 46) (bm 55 134217727) HT_ HW_ hHeld ?_
     refine pU 27 (some 47) (bm 55 268435455) HT_ ?_
     refine pU 28 (some 48) (bm 55 536870911) HT_ ?_
     refine pU 29 (some 49) (bm 55 1073741823) HT_ ?_
     refine pU 30 (some 50) (bm 55 2147483647) HT_ ?_
     refine pU 31 (some 51) (bm 55 4294967295) HT_ ?_
     refine pU 32 (some 52) (bm 55 8589934591) HT_ ?_
     refine pX 33 (some 53) (bm 55 17179869183) HT_ ?_
     refine pX 34 (some 54) (bm 55 34359738367) HT_ ?_
     refine pX 35 (some 55) (bm 55 68719476735) HT_ ?_
     refine pX 36 (some 56) (bm 55 137438953471) HT_ ?_
     refine pX 37 (some 57) (bm 55 274877906943) HT_ ?_
     refine pX 38 (some 58) (bm 55 549755813887) HT_ ?_
     refine pX 39 (some 59) (bm 55 1099511627775) HT_ ?_
     refine pX 40 (some 60) (bm 55 2199023255551) HT_ ?_
     refine pX 41 (some 61) (bm 55 4398046511103) HT_ ?_
     refine pX 42 (some 62) (bm 55 8796093022207) HT_ ?_
     refine pX 43 (some 63) (bm 55 17592186044415) HT_ ?_
     refine pX 44 (some 64) (bm 55 35184372088831) HT_ ?_
     refine pX 45 (some 65) (bm 55 70368744177663) HT_ ?_
     refine pX 46 (some 66) (bm 55 140737488355327) HT_ ?_
     refine pX 47 (some 67) (bm 55 281474976710655) HT_ ?_
     refine pX 48 (some 68) (bm 55 562949953421311) HT_ ?_
     refine pX 49 (some 69) (bm 55 1125899906842623) HT_ ?_
     refine pX 50 (some 70) (bm 55 2251799813685247) HT_ ?_
     refine pX 51 (some 71) (bm 55 4503599627370495) HT_ ?_
     refine pX 52 (some 72) (bm 55 9007199254740991) HT_ ?_
     refine pU 53 (some 73) (bm 55 18014398509481983) HT_ ?_
     refine pU 54 (some 74) (bm 55 36028797018963967) HT_ ?_
     refine pD HT_ ?_
     try go_wp2
     go_meet
     case rel=>exact⟨_,(false),eS,H',⟨by have:=HK1.out;first|omega|exact Nat.le_refl _⟩,⟨kN BK663.out⟩,⟨kB HB.out⟩⟩
    rw [if_pos c21] at H
    have c21b0:decide (0 < x15_1) = true:=decide_eq_true c21
    clear c21
    obtain⟨ji22,hji22⟩:∃ j_:Int,(wrap64 (x15_1 - 1)) = j_:=⟨_,rfl⟩
    first|rw [hji22] at H|simp only [hji22] at H
    (try rw [hji22] at A12)
    (try rw [hji22] at A14)
    have hji22w:(IntKind.i64.wrap (x15_1 - 1)) = ji22:=(i64_w _).trans hji22
    by_cases c23:0 ≤ (ji22)
    rotate_left
    ·rw [if_neg c23] at H
     exact nn H
    rw [if_pos c23] at H
    have c23b0:decide (0 ≤ (ji22)) = true:=decide_eq_true c23
    clear c23
    by_cases c24:(ji22) < (l2.length:Int)
    rotate_left
    ·rw [if_neg c24] at H
     exact nn H
    rw [if_pos c24] at H
    have c24b0:decide ((ji22) < (l2.length:Int)) = true:=decide_eq_true c24
    clear c24
    by_cases c25:((rd_T56 l2 x15_1).f0) ≤ ((rd_T56 l2 (ji22)).f0)
    ·rw [if_pos c25] at H
     have c25b0:decide (((rd_T56 l2 x15_1).f0) ≤ ((rd_T56 l2 (ji22)).f0)) = true:=decide_eq_true c25
     clear c25
     have H':=mk0 H
     clear H
     try go_wp2
     have n0_:Aside0 (((w10.setCell ⟨gb663,0,none⟩ (.int .i64 ((rd_T56 l2 x15_1).f0))).setCell ⟨gb663,1,none⟩ (.int .i64 ((rd_T56 l2 x15_1).f1))).heap[gb663]? = some (.cells #[.int .i64 ((rd_T56 l2 x15_1).f0),.int .i64 ((rd_T56 l2 x15_1).f1)] 56 (0,0))):=⟨by (with_reducible repeat (first|apply nB|apply dB|apply aB));refine blk_put (cs:=#[.int .i64 ((rd_T56 l2 x15_1).f0),.int .i64 0]) ?_ 1 _ rfl;(with_reducible repeat (first|apply nB|apply dB|apply aB));refine blk_put (cs:=#[.int .i64 0,.int .i64 0]) ?_ 0 _ rfl;(with_reducible repeat (first|apply nB|apply dB|apply aB));exact BK663.out⟩
     have n1_:Aside0 (Below w.heap.size w ((w10.setCell ⟨gb663,0,none⟩ (.int .i64 ((rd_T56 l2 x15_1).f0))).setCell ⟨gb663,1,none⟩ (.int .i64 ((rd_T56 l2 x15_1).f1)))):=⟨kB HB.out⟩
     (try clear BK663)
     (try clear HB)
     generalize ((w10.setCell ⟨gb663,0,none⟩ (.int .i64 ((rd_T56 l2 x15_1).f0))).setCell ⟨gb663,1,none⟩ (.int .i64 ((rd_T56 l2 x15_1).f1))) = w26 at n0_ n1_ ⊢
     have BK663:=n0_
     have HB:=n1_
     clear n0_ n1_
     replace BK663:=mk0 (dB BK663.out)
     replace HB:=mk0 (dZ HB.out)
     have p666:0 ≤ (((rd_T56 l2 x15_1).f0):Int):=oD
     have q666:((rd_T56 l2 x15_1).f0) < (l0.length:Int):=oD
     obtain⟨ad666,e666,hx666_0⟩:=Kd.at_int HR0.out ((rd_T56 l2 x15_1).f0) p666 q666
     have hw666_0:=hx666_0
     cases e666
     replace hx666_0:=(HB.out.cell (World.block_lt_of_cell? w _ hx666_0)).trans hx666_0
     replace p666:=eq_true p666
     replace q666:=eq_true q666
     have p667:0 ≤ (((rd_T56 l2 x15_1).f1):Int):=oD
     have q667:((rd_T56 l2 x15_1).f1) < (l1.length:Int):=oD
     obtain⟨ad667,e667,hx667_0⟩:=Kd.at_int HR1.out ((rd_T56 l2 x15_1).f1) p667 q667
     have hw667_0:=hx667_0
     cases e667
     replace hx667_0:=(HB.out.cell (World.block_lt_of_cell? w _ hx667_0)).trans hx667_0
     replace p667:=eq_true p667
     replace q667:=eq_true q667
     have p668:0 ≤ ((ji22):Int):=oD
     have q668:(ji22) < (l2.length:Int):=oD
     obtain⟨ad668,e668,hx668_0,hx668_1⟩:=at_T56 HR2.out (ji22) p668 q668
     have hw668_1:=hx668_1
     have hw668_0:=hx668_0
     obtain rfl:ad662 = ad668:=(by injection e668)
     replace hx668_0:=(HB.out.cell (World.block_lt_of_cell? w _ hx668_0)).trans hx668_0
     replace hx668_1:=(HB.out.cell (World.block_lt_of_cell? w _ hx668_1)).trans hx668_1
     replace p668:=eq_true p668
     replace q668:=eq_true q668
     refine start_ (n:=55) (S:=fun w'=>w'.cell? ⟨gb663,0,none⟩ = some (.int .i64 ((rd_T56 l2 x15_1).f0)) ∧ w'.cell? ⟨gb663,1,none⟩ = some (.int .i64 ((rd_T56 l2 x15_1).f1)) ∧ w'.cell? (ad666.add (((rd_T56 l2 x15_1).f0)).toNat) = some (.int .i64 (rd l0 ((rd_T56 l2 x15_1).f0))) ∧ w'.cell? (ad667.add (((rd_T56 l2 x15_1).f1)).toNat) = some (.int .i64 (rd l1 ((rd_T56 l2 x15_1).f1))) ∧ w'.cell? (ad662.add (((ji22)).toNat * 2)) = some (.int .i64 ((rd_T56 l2 (ji22)).f0)) ∧ w'.cell? ⟨(ad662.add (((ji22)).toNat * 2)).block,(ad662.add (((ji22)).toNat * 2)).off + 1,none⟩ = some (.int .i64 ((rd_T56 l2 (ji22)).f1))) (ds:=[]) (bm 55 0) (by kernel_rfl) rfl (by kernel_rfl) ⟨(blk_cell BK663.out 0).trans rfl,(blk_cell BK663.out 1).trans rfl,((HB.out.cell (World.block_lt_of_cell? w _ hw666_0)).trans hw666_0),((HB.out.cell (World.block_lt_of_cell? w _ hw667_0)).trans hw667_0),((HB.out.cell (World.block_lt_of_cell? w _ hw668_0)).trans hw668_0),((HB.out.cell (World.block_lt_of_cell? w _ hw668_1)).trans hw668_1)⟩ (fun hHeld=>?_);refine with_tabW impl_CommonOk.tab6 impl_CommonOk.bits6 (fun HT_ HW_=>?_)
     generalize w26.drew = w27 at BK663 HB hx666_0 hx667_0 hx668_0 hx668_1 hHeld ⊢
     refine pU 0 (some 20) (bm 55 1) HT_ ?_
     refine pU 2 (some 22) (bm 55 5) HT_ ?_
     refine pU 3 (some 23) (bm 55 13) HT_ ?_
     refine pU 4 (some 24) (bm 55 29) HT_ ?_
     refine pT 1 (some 21) (bm 55 31) HT_ HW_ hHeld ?_
     refine pO 5 (some 25) (bm 55 63) HT_ (fun K hK=>?_)
     refine gO Try.func61 #[.int .i64 ((rd_T56 l2 x15_1).f0),.int .i64 0,.int .i64 (wrap64 ((l0.length:Int) - 1))] ?_
     with_reducible refine (impl_within.calls ((rd_T56 l2 x15_1).f0) 0 (wrap64 ((l0.length:Int) - 1)) true _ A12.out).mono ?_
     rintro e w' ⟨rfl,⟨nd,rfl⟩⟩
     refine⟨_,rfl,?_⟩
     refine hK.out _ _ ⟨(blk_cell BK663.out 0).trans rfl,(blk_cell BK663.out 1).trans rfl,((HB.out.cell (World.block_lt_of_cell? w _ hw666_0)).trans hw666_0),((HB.out.cell (World.block_lt_of_cell? w _ hw667_0)).trans hw667_0),((HB.out.cell (World.block_lt_of_cell? w _ hw668_0)).trans hw668_0),((HB.out.cell (World.block_lt_of_cell? w _ hw668_1)).trans hw668_1)⟩ (fun hHeld=>?_)
     clear hK K
     refine pN (some 25) ?_
     refine pU 6 (some 26) (bm 55 127) HT_ ?_
     refine pU 7 (some 27) (bm 55 255) HT_ ?_
     refine pU 8 (some 28) (bm 55 511) HT_ ?_
     refine pU 10 (some 30) (bm 55 1535) HT_ ?_
     refine pU 11 (some 31) (bm 55 3583) HT_ ?_
     refine pU 12 (some 32) (bm 55 7679) HT_ ?_
     refine pT 9 (some 29) (bm 55 8191) HT_ HW_ hHeld ?_
     refine pO 13 (some 33) (bm 55 16383) HT_ (fun K hK=>?_)
     refine gO Try.func61 #[.int .i64 ((rd_T56 l2 x15_1).f1),.int .i64 0,.int .i64 (wrap64 ((l1.length:Int) - 1))] ?_
     with_reducible refine (impl_within.calls ((rd_T56 l2 x15_1).f1) 0 (wrap64 ((l1.length:Int) - 1)) true _ A14.out).mono ?_
     rintro e w' ⟨rfl,⟨nd,rfl⟩⟩
     refine⟨_,rfl,?_⟩
     refine hK.out _ _ ⟨(blk_cell BK663.out 0).trans rfl,(blk_cell BK663.out 1).trans rfl,((HB.out.cell (World.block_lt_of_cell? w _ hw666_0)).trans hw666_0),((HB.out.cell (World.block_lt_of_cell? w _ hw667_0)).trans hw667_0),((HB.out.cell (World.block_lt_of_cell? w _ hw668_0)).trans hw668_0),((HB.out.cell (World.block_lt_of_cell? w _ hw668_1)).trans hw668_1)⟩ (fun hHeld=>?_)
     clear hK K
     refine pN (some 33) ?_
     refine pU 14 (some 34) (bm 55 32767) HT_ ?_
     refine pU 15 (some 35) (bm 55 65535) HT_ ?_
     refine pU 16 (some 36) (bm 55 131071) HT_ ?_
     refine pU 17 (some 37) (bm 55 262143) HT_ ?_
     refine pU 18 (some 38) (bm 55 524287) HT_ ?_
     refine pU 22 (some 42) (bm 55 4718591) HT_ ?_
     refine pU 23 (some 43) (bm 55 13107199) HT_ ?_
     refine pT 19 (some 39) (bm 55 13631487) HT_ HW_ hHeld ?_
     refine pU 20 (some 40) (bm 55 14680063) HT_ ?_
     refine pT 21 (some 41) (bm 55 16777215) HT_ HW_ hHeld ?_
     refine pT 24 (some 44) (bm 55 33554431) HT_ HW_ hHeld ?_
     refine pU 25 (some 45) (bm 55 67108863) HT_ ?_
     refine pT 26 (some 46) (bm 55 134217727) HT_ HW_ hHeld ?_
     refine pU 27 (some 47) (bm 55 268435455) HT_ ?_
     refine pU 28 (some 48) (bm 55 536870911) HT_ ?_
     refine pU 29 (some 49) (bm 55 1073741823) HT_ ?_
     refine pU 30 (some 50) (bm 55 2147483647) HT_ ?_
     refine pU 31 (some 51) (bm 55 4294967295) HT_ ?_
     refine pU 32 (some 52) (bm 55 8589934591) HT_ ?_
     refine pU 33 (some 53) (bm 55 17179869183) HT_ ?_
     refine pU 35 (some 55) (bm 55 51539607551) HT_ ?_
     refine pU 36 (some 56) (bm 55 120259084287) HT_ ?_
     refine pU 37 (some 57) (bm 55 257698037759) HT_ ?_
     refine pU 38 (some 58) (bm 55 532575944703) HT_ ?_
     refine pU 39 (some 59) (bm 55 1082331758591) HT_ ?_
     refine pT 34 (some 54) (bm 55 1099511627775) HT_ HW_ hHeld ?_
     refine pT 40 (some 60) (bm 55 2199023255551) HT_ HW_ hHeld ?_
     refine pU 41 (some 61) (bm 55 4398046511103) HT_ ?_
     refine pU 42 (some 62) (bm 55 8796093022207) HT_ ?_
     refine pX 43 (some 63) (bm 55 17592186044415) HT_ ?_
     refine pX 44 (some 64) (bm 55 35184372088831) HT_ ?_
     refine pX 45 (some 65) (bm 55 70368744177663) HT_ ?_
     refine pX 46 (some 66) (bm 55 140737488355327) HT_ ?_
     refine pX 47 (some 67) (bm 55 281474976710655) HT_ ?_
     refine pX 48 (some 68) (bm 55 562949953421311) HT_ ?_
     refine pX 49 (some 69) (bm 55 1125899906842623) HT_ ?_
     refine pX 50 (some 70) (bm 55 2251799813685247) HT_ ?_
     refine pX 51 (some 71) (bm 55 4503599627370495) HT_ ?_
     refine pU 52 (some 72) (bm 55 9007199254740991) HT_ ?_
     refine pU 53 (some 73) (bm 55 18014398509481983) HT_ ?_
     refine pU 54 (some 74) (bm 55 36028797018963967) HT_ ?_
     refine pD HT_ ?_
     try go_wp2
     go_meet
     case rel=>exact⟨_,(true),eS,H',⟨by have:=HK1.out;first|omega|exact Nat.le_refl _⟩,⟨kN BK663.out⟩,⟨kB HB.out⟩⟩
    rw [if_neg c25] at H
    have c25b0:decide (((rd_T56 l2 x15_1).f0) ≤ ((rd_T56 l2 (ji22)).f0)) = false:=decide_eq_false c25
    clear c25
    have H':=mk0 H
    clear H
    try go_wp2
    have n0_:Aside0 (((w10.setCell ⟨gb663,0,none⟩ (.int .i64 ((rd_T56 l2 x15_1).f0))).setCell ⟨gb663,1,none⟩ (.int .i64 ((rd_T56 l2 x15_1).f1))).heap[gb663]? = some (.cells #[.int .i64 ((rd_T56 l2 x15_1).f0),.int .i64 ((rd_T56 l2 x15_1).f1)] 56 (0,0))):=⟨by (with_reducible repeat (first|apply nB|apply dB|apply aB));refine blk_put (cs:=#[.int .i64 ((rd_T56 l2 x15_1).f0),.int .i64 0]) ?_ 1 _ rfl;(with_reducible repeat (first|apply nB|apply dB|apply aB));refine blk_put (cs:=#[.int .i64 0,.int .i64 0]) ?_ 0 _ rfl;(with_reducible repeat (first|apply nB|apply dB|apply aB));exact BK663.out⟩
    have n1_:Aside0 (Below w.heap.size w ((w10.setCell ⟨gb663,0,none⟩ (.int .i64 ((rd_T56 l2 x15_1).f0))).setCell ⟨gb663,1,none⟩ (.int .i64 ((rd_T56 l2 x15_1).f1)))):=⟨kB HB.out⟩
    (try clear BK663)
    (try clear HB)
    generalize ((w10.setCell ⟨gb663,0,none⟩ (.int .i64 ((rd_T56 l2 x15_1).f0))).setCell ⟨gb663,1,none⟩ (.int .i64 ((rd_T56 l2 x15_1).f1))) = w28 at n0_ n1_ ⊢
    have BK663:=n0_
    have HB:=n1_
    clear n0_ n1_
    replace BK663:=mk0 (dB BK663.out)
    replace HB:=mk0 (dZ HB.out)
    have p666:0 ≤ (((rd_T56 l2 x15_1).f0):Int):=oD
    have q666:((rd_T56 l2 x15_1).f0) < (l0.length:Int):=oD
    obtain⟨ad666,e666,hx666_0⟩:=Kd.at_int HR0.out ((rd_T56 l2 x15_1).f0) p666 q666
    have hw666_0:=hx666_0
    cases e666
    replace hx666_0:=(HB.out.cell (World.block_lt_of_cell? w _ hx666_0)).trans hx666_0
    replace p666:=eq_true p666
    replace q666:=eq_true q666
    have p667:0 ≤ (((rd_T56 l2 x15_1).f1):Int):=oD
    have q667:((rd_T56 l2 x15_1).f1) < (l1.length:Int):=oD
    obtain⟨ad667,e667,hx667_0⟩:=Kd.at_int HR1.out ((rd_T56 l2 x15_1).f1) p667 q667
    have hw667_0:=hx667_0
    cases e667
    replace hx667_0:=(HB.out.cell (World.block_lt_of_cell? w _ hx667_0)).trans hx667_0
    replace p667:=eq_true p667
    replace q667:=eq_true q667
    have p668:0 ≤ ((ji22):Int):=oD
    have q668:(ji22) < (l2.length:Int):=oD
    obtain⟨ad668,e668,hx668_0,hx668_1⟩:=at_T56 HR2.out (ji22) p668 q668
    have hw668_1:=hx668_1
    have hw668_0:=hx668_0
    obtain rfl:ad662 = ad668:=(by injection e668)
    replace hx668_0:=(HB.out.cell (World.block_lt_of_cell? w _ hx668_0)).trans hx668_0
    replace hx668_1:=(HB.out.cell (World.block_lt_of_cell? w _ hx668_1)).trans hx668_1
    replace p668:=eq_true p668
    replace q668:=eq_true q668
    have p669:0 ≤ ((ji22):Int):=oD
    have q669:(ji22) < (l2.length:Int):=oD
    obtain⟨ad669,e669,hx669_0,hx669_1⟩:=at_T56 HR2.out (ji22) p669 q669
    have hw669_1:=hx669_1
    have hw669_0:=hx669_0
    obtain rfl:ad662 = ad669:=(by injection e669)
    replace hx669_0:=(HB.out.cell (World.block_lt_of_cell? w _ hx669_0)).trans hx669_0
    replace hx669_1:=(HB.out.cell (World.block_lt_of_cell? w _ hx669_1)).trans hx669_1
    replace p669:=eq_true p669
    replace q669:=eq_true q669
    refine start_ (n:=55) (S:=fun w'=>w'.cell? ⟨gb663,0,none⟩ = some (.int .i64 ((rd_T56 l2 x15_1).f0)) ∧ w'.cell? ⟨gb663,1,none⟩ = some (.int .i64 ((rd_T56 l2 x15_1).f1)) ∧ w'.cell? (ad666.add (((rd_T56 l2 x15_1).f0)).toNat) = some (.int .i64 (rd l0 ((rd_T56 l2 x15_1).f0))) ∧ w'.cell? (ad667.add (((rd_T56 l2 x15_1).f1)).toNat) = some (.int .i64 (rd l1 ((rd_T56 l2 x15_1).f1))) ∧ w'.cell? (ad662.add (((ji22)).toNat * 2)) = some (.int .i64 ((rd_T56 l2 (ji22)).f0)) ∧ w'.cell? ⟨(ad662.add (((ji22)).toNat * 2)).block,(ad662.add (((ji22)).toNat * 2)).off + 1,none⟩ = some (.int .i64 ((rd_T56 l2 (ji22)).f1)) ∧ w'.cell? (ad662.add (((ji22)).toNat * 2)) = some (.int .i64 ((rd_T56 l2 (ji22)).f0)) ∧ w'.cell? ⟨(ad662.add (((ji22)).toNat * 2)).block,(ad662.add (((ji22)).toNat * 2)).off + 1,none⟩ = some (.int .i64 ((rd_T56 l2 (ji22)).f1))) (ds:=[]) (bm 55 0) (by kernel_rfl) rfl (by kernel_rfl) ⟨(blk_cell BK663.out 0).trans rfl,(blk_cell BK663.out 1).trans rfl,((HB.out.cell (World.block_lt_of_cell? w _ hw666_0)).trans hw666_0),((HB.out.cell (World.block_lt_of_cell? w _ hw667_0)).trans hw667_0),((HB.out.cell (World.block_lt_of_cell? w _ hw668_0)).trans hw668_0),((HB.out.cell (World.block_lt_of_cell? w _ hw668_1)).trans hw668_1),((HB.out.cell (World.block_lt_of_cell? w _ hw669_0)).trans hw669_0),((HB.out.cell (World.block_lt_of_cell? w _ hw669_1)).trans hw669_1)⟩ (fun hHeld=>?_);refine with_tabW impl_CommonOk.tab6 impl_CommonOk.bits6 (fun HT_ HW_=>?_)
    generalize w28.drew = w29 at BK663 HB hx666_0 hx667_0 hx668_0 hx668_1 hx669_0 hx669_1 hHeld ⊢
    refine pU 0 (some 20) (bm 55 1) HT_ ?_
    refine pU 2 (some 22) (bm 55 5) HT_ ?_
    refine pU 3 (some 23) (bm 55 13) HT_ ?_
    refine pU 4 (some 24) (bm 55 29) HT_ ?_
    refine pT 1 (some 21) (bm 55 31) HT_ HW_ hHeld ?_
    refine pO 5 (some 25) (bm 55 63) HT_ (fun K hK=>?_)
    refine gO Try.func61 #[.int .i64 ((rd_T56 l2 x15_1).f0),.int .i64 0,.int .i64 (wrap64 ((l0.length:Int) - 1))] ?_
    with_reducible refine (impl_within.calls ((rd_T56 l2 x15_1).f0) 0 (wrap64 ((l0.length:Int) - 1)) true _ A12.out).mono ?_
    rintro e w' ⟨rfl,⟨nd,rfl⟩⟩
    refine⟨_,rfl,?_⟩
    refine hK.out _ _ ⟨(blk_cell BK663.out 0).trans rfl,(blk_cell BK663.out 1).trans rfl,((HB.out.cell (World.block_lt_of_cell? w _ hw666_0)).trans hw666_0),((HB.out.cell (World.block_lt_of_cell? w _ hw667_0)).trans hw667_0),((HB.out.cell (World.block_lt_of_cell? w _ hw668_0)).trans hw668_0),((HB.out.cell (World.block_lt_of_cell? w _ hw668_1)).trans hw668_1),((HB.out.cell (World.block_lt_of_cell? w _ hw669_0)).trans hw669_0),((HB.out.cell (World.block_lt_of_cell? w _ hw669_1)).trans hw669_1)⟩ (fun hHeld=>?_)
    clear hK K
    refine pN (some 25) ?_
    refine pU 6 (some 26) (bm 55 127) HT_ ?_
    refine pU 7 (some 27) (bm 55 255) HT_ ?_
    refine pU 8 (some 28) (bm 55 511) HT_ ?_
    refine pU 10 (some 30) (bm 55 1535) HT_ ?_
    refine pU 11 (some 31) (bm 55 3583) HT_ ?_
    refine pU 12 (some 32) (bm 55 7679) HT_ ?_
    refine pT 9 (some 29) (bm 55 8191) HT_ HW_ hHeld ?_
    refine pO 13 (some 33) (bm 55 16383) HT_ (fun K hK=>?_)
    refine gO Try.func61 #[.int .i64 ((rd_T56 l2 x15_1).f1),.int .i64 0,.int .i64 (wrap64 ((l1.length:Int) - 1))] ?_
    with_reducible refine (impl_within.calls ((rd_T56 l2 x15_1).f1) 0 (wrap64 ((l1.length:Int) - 1)) true _ A14.out).mono ?_
    rintro e w' ⟨rfl,⟨nd,rfl⟩⟩
    refine⟨_,rfl,?_⟩
    refine hK.out _ _ ⟨(blk_cell BK663.out 0).trans rfl,(blk_cell BK663.out 1).trans rfl,((HB.out.cell (World.block_lt_of_cell? w _ hw666_0)).trans hw666_0),((HB.out.cell (World.block_lt_of_cell? w _ hw667_0)).trans hw667_0),((HB.out.cell (World.block_lt_of_cell? w _ hw668_0)).trans hw668_0),((HB.out.cell (World.block_lt_of_cell? w _ hw668_1)).trans hw668_1),((HB.out.cell (World.block_lt_of_cell? w _ hw669_0)).trans hw669_0),((HB.out.cell (World.block_lt_of_cell? w _ hw669_1)).trans hw669_1)⟩ (fun hHeld=>?_)
    clear hK K
    refine pN (some 33) ?_
    refine pU 14 (some 34) (bm 55 32767) HT_ ?_
    refine pU 15 (some 35) (bm 55 65535) HT_ ?_
    refine pU 16 (some 36) (bm 55 131071) HT_ ?_
    refine pU 17 (some 37) (bm 55 262143) HT_ ?_
    refine pU 18 (some 38) (bm 55 524287) HT_ ?_
    refine pU 22 (some 42) (bm 55 4718591) HT_ ?_
    refine pU 23 (some 43) (bm 55 13107199) HT_ ?_
    refine pT 19 (some 39) (bm 55 13631487) HT_ HW_ hHeld ?_
    refine pU 20 (some 40) (bm 55 14680063) HT_ ?_
    refine pT 21 (some 41) (bm 55 16777215) HT_ HW_ hHeld ?_
    refine pT 24 (some 44) (bm 55 33554431) HT_ HW_ hHeld ?_
    refine pU 25 (some 45) (bm 55 67108863) HT_ ?_
    refine pT 26 (some 46) (bm 55 134217727) HT_ HW_ hHeld ?_
    refine pU 27 (some 47) (bm 55 268435455) HT_ ?_
    refine pU 28 (some 48) (bm 55 536870911) HT_ ?_
    refine pU 29 (some 49) (bm 55 1073741823) HT_ ?_
    refine pU 30 (some 50) (bm 55 2147483647) HT_ ?_
    refine pU 31 (some 51) (bm 55 4294967295) HT_ ?_
    refine pU 32 (some 52) (bm 55 8589934591) HT_ ?_
    refine pU 33 (some 53) (bm 55 17179869183) HT_ ?_
    refine pU 35 (some 55) (bm 55 51539607551) HT_ ?_
    refine pU 36 (some 56) (bm 55 120259084287) HT_ ?_
    refine pU 37 (some 57) (bm 55 257698037759) HT_ ?_
    refine pU 38 (some 58) (bm 55 532575944703) HT_ ?_
    refine pU 39 (some 59) (bm 55 1082331758591) HT_ ?_
    refine pT 34 (some 54) (bm 55 1099511627775) HT_ HW_ hHeld ?_
    refine pT 40 (some 60) (bm 55 2199023255551) HT_ HW_ hHeld ?_
    refine pU 41 (some 61) (bm 55 4398046511103) HT_ ?_
    refine pU 42 (some 62) (bm 55 8796093022207) HT_ ?_
    refine pU 43 (some 63) (bm 55 17592186044415) HT_ ?_
    refine pU 45 (some 65) (bm 55 52776558133247) HT_ ?_
    refine pU 46 (some 66) (bm 55 123145302310911) HT_ ?_
    refine pU 47 (some 67) (bm 55 263882790666239) HT_ ?_
    refine pU 48 (some 68) (bm 55 545357767376895) HT_ ?_
    refine pU 49 (some 69) (bm 55 1108307720798207) HT_ ?_
    refine pT 44 (some 64) (bm 55 1125899906842623) HT_ HW_ hHeld ?_
    refine pT 50 (some 70) (bm 55 2251799813685247) HT_ HW_ hHeld ?_
    refine pU 51 (some 71) (bm 55 4503599627370495) HT_ ?_
    refine pU 52 (some 72) (bm 55 9007199254740991) HT_ ?_
    refine pU 53 (some 73) (bm 55 18014398509481983) HT_ ?_
    refine pU 54 (some 74) (bm 55 36028797018963967) HT_ ?_
    refine pD HT_ ?_
    try go_wp2
    go_meet
    case rel=>exact⟨_,(decide (((rd_T56 l2 x15_1).f1) ≤ ((rd_T56 l2 (ji22)).f1))),(by first|rfl|(simp;done)|(simp only [← hji22] <;> (first|rfl|simp))|(simp [*];done)),H',⟨by have:=HK1.out;first|omega|exact Nat.le_refl _⟩,⟨kN BK663.out⟩,⟨kB HB.out⟩⟩
   case rest =>
    clear HC9
    try clear c1
    try clear p2
    try clear c6
    try clear p6
    try clear c13
    obtain⟨kq,x74_8,rfl,HA,HJ8,BK663,HB⟩:=hcut
    cases kq with
    | zero=>exact absurd HA.out (by simp [impl_CommonOk.j1])
    | succ kj8 =>
     have H:=HA.out
     clear HA
     simp only [impl_CommonOk.j1] at H
     by_cases c38:x74_8 = true
     ·subst c38
      replace H:=iT H
      obtain rfl:=Option.some.inj H
      go_wp2
      go_ret
      exact⟨eR,kB HB.out⟩
     replace c38:=Bool.eq_false_iff.mpr c38
     subst c38
     replace H:=iF H
     have H':=mk0 H
     clear H
     go_wp2
     go_roundg kj8
     case measure=>have:=HK1.out;have:=HJ8.out;omega
     case rel=>exact⟨(wrap64 (x15_1 + 1)),eS,H',⟨by have:=HK1.out;have:=HJ8.out;omega⟩,⟨kB HB.out⟩⟩
end Go.Proofs.Ytadhngelhognaaa.QFnShare
