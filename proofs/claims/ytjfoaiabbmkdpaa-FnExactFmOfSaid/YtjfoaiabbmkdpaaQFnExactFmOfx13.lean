-- A walk, made by walk.py, a program of this session's.
import Derived.Test.YtjfoaiabbmkdpaaQFnExactFmOfx0
import Derived.Test.YtjfoaiabbmkdpaaQFnExactFmOfx12
namespace Go.Proofs.Ytjfoaiabbmkdpaa.QFnExactFmOf
open Go.RowKit Go.Proofs.YtjfoaiabbmkdpaaW.PrintWords Go.Proofs.YtjfoaiabbmkdpaaW.PrintLast Go.Proofs.YtjfoaiabbmkdpaaW.PrintMore
attribute [local go_sem] max2_int min2_int max_two min_two max_three min_three max_four min_four   -- for this text's walks alone
set_option linter.unusedVariables false
set_option linter.unusedSimpArgs false
/-! ### laws_eqFm: function 7 -/
def laws_eqFm.f (k : Nat) (a0_0 : Int) (a0_1 : Int) (a0_2 : Int) (l0_3 : List Int) (l0_4 : List (S29)) (l0_5 : List Int) (a0_6 : Int) (l0_7 : List Int) (a0_8 : Int) (a0_9 : Int) (a0_10 : Int) (l0_11 : List Int) (a0_12 : Int) (a0_13 : Int) (a0_14 : Int) (l0_15 : List Int) (a1_0 : Int) (a1_1 : Int) (a1_2 : Int) (l1_3 : List Int) (l1_4 : List (S29)) (l1_5 : List Int) (a1_6 : Int) (l1_7 : List Int) (a1_8 : Int) (a1_9 : Int) (a1_10 : Int) (l1_11 : List Int) (a1_12 : Int) (a1_13 : Int) (a1_14 : Int) (l1_15 : List Int) : Option (Bool) := if a0_0 = a1_0 then (if a0_1 = a1_1 then ((laws_eqWave.f k a0_2 l0_3 l0_4 a1_2 l1_3 l1_4).bind fun t530 => (if t530 = true then ((laws_eqIntS.f k l0_5 l1_5).bind fun t531 => (if t531 = true then ((laws_eqBits.f k a0_6 l0_7 a1_6 l1_7).bind fun t532 => (if t532 = true then ((laws_eqPacked.f k a0_8 a0_9 a0_10 l0_11 a1_8 a1_9 a1_10 l1_11).bind fun t533 => (if t533 = true then ((laws_eqPacked.f k a0_12 a0_13 a0_14 l0_15 a1_12 a1_13 a1_14 l1_15).bind fun t534 => (if t534 = true then (some true) else (none))) else (none))) else (none))) else (none))) else (none))) else (none)) else (none)
set_option maxHeartbeats 8000000 in
set_option maxRecDepth 100000 in
theorem laws_eqFm.calls (k : Nat) (a0_0 : Int) (a0_1 : Int) (a0_2 : Int) (A0_3 : Option Addr) (c0_3 : Nat) (l0_3 : List Int) (A0_4 : Option Addr) (c0_4 : Nat) (l0_4 : List (S29)) (A0_5 : Option Addr) (c0_5 : Nat) (l0_5 : List Int) (a0_6 : Int) (A0_7 : Option Addr) (c0_7 : Nat) (l0_7 : List Int) (a0_8 : Int) (a0_9 : Int) (a0_10 : Int) (A0_11 : Option Addr) (c0_11 : Nat) (l0_11 : List Int) (a0_12 : Int) (a0_13 : Int) (a0_14 : Int) (A0_15 : Option Addr) (c0_15 : Nat) (l0_15 : List Int) (a1_0 : Int) (a1_1 : Int) (a1_2 : Int) (A1_3 : Option Addr) (c1_3 : Nat) (l1_3 : List Int) (A1_4 : Option Addr) (c1_4 : Nat) (l1_4 : List (S29)) (A1_5 : Option Addr) (c1_5 : Nat) (l1_5 : List Int) (a1_6 : Int) (A1_7 : Option Addr) (c1_7 : Nat) (l1_7 : List Int) (a1_8 : Int) (a1_9 : Int) (a1_10 : Int) (A1_11 : Option Addr) (c1_11 : Nat) (l1_11 : List Int) (a1_12 : Int) (a1_13 : Int) (a1_14 : Int) (A1_15 : Option Addr) (c1_15 : Nat) (l1_15 : List Int) (r : Bool) (w : World) (hr0_3 : Kd.C (Kd.int .i64) w A0_3 l0_3.length l0_3) (hc0_3 : l0_3.length ≤ c0_3) (hr0_4 : Kd.C k29 w A0_4 l0_4.length l0_4) (hc0_4 : l0_4.length ≤ c0_4) (hr0_5 : Kd.C (Kd.int .i64) w A0_5 l0_5.length l0_5) (hc0_5 : l0_5.length ≤ c0_5) (hr0_7 : Kd.C (Kd.int .u64) w A0_7 l0_7.length l0_7) (hc0_7 : l0_7.length ≤ c0_7) (hr0_11 : Kd.C (Kd.int .u64) w A0_11 l0_11.length l0_11) (hc0_11 : l0_11.length ≤ c0_11) (hr0_15 : Kd.C (Kd.int .u64) w A0_15 l0_15.length l0_15) (hc0_15 : l0_15.length ≤ c0_15) (hr1_3 : Kd.C (Kd.int .i64) w A1_3 l1_3.length l1_3) (hc1_3 : l1_3.length ≤ c1_3) (hr1_4 : Kd.C k29 w A1_4 l1_4.length l1_4) (hc1_4 : l1_4.length ≤ c1_4) (hr1_5 : Kd.C (Kd.int .i64) w A1_5 l1_5.length l1_5) (hc1_5 : l1_5.length ≤ c1_5) (hr1_7 : Kd.C (Kd.int .u64) w A1_7 l1_7.length l1_7) (hc1_7 : l1_7.length ≤ c1_7) (hr1_11 : Kd.C (Kd.int .u64) w A1_11 l1_11.length l1_11) (hc1_11 : l1_11.length ≤ c1_11) (hr1_15 : Kd.C (Kd.int .u64) w A1_15 l1_15.length l1_15) (hc1_15 : l1_15.length ≤ c1_15) (h : laws_eqFm.f k a0_0 a0_1 a0_2 l0_3 l0_4 l0_5 a0_6 l0_7 a0_8 a0_9 a0_10 l0_11 a0_12 a0_13 a0_14 l0_15 a1_0 a1_1 a1_2 l1_3 l1_4 l1_5 a1_6 l1_7 a1_8 a1_9 a1_10 l1_11 a1_12 a1_13 a1_14 l1_15 = some r) :
  Calls Try.prog 7 #[.agg #[.int .i64 a0_0, .int .i64 a0_1, .int .i64 a0_2, .slice A0_3 l0_3.length c0_3, .slice A0_4 l0_4.length c0_4, .slice A0_5 l0_5.length c0_5, .int .i64 a0_6, .slice A0_7 l0_7.length c0_7, .int .i64 a0_8, .int .i64 a0_9, .int .i64 a0_10, .slice A0_11 l0_11.length c0_11, .int .i64 a0_12, .int .i64 a0_13, .int .i64 a0_14, .slice A0_15 l0_15.length c0_15], .agg #[.int .i64 a1_0, .int .i64 a1_1, .int .i64 a1_2, .slice A1_3 l1_3.length c1_3, .slice A1_4 l1_4.length c1_4, .slice A1_5 l1_5.length c1_5, .int .i64 a1_6, .slice A1_7 l1_7.length c1_7, .int .i64 a1_8, .int .i64 a1_9, .int .i64 a1_10, .slice A1_11 l1_11.length c1_11, .int .i64 a1_12, .int .i64 a1_13, .int .i64 a1_14, .slice A1_15 l1_15.length c1_15]] w fun e w' => e = .returned (.bool r) ∧ Below w.heap.size w w' := by
 have hu33:=Try.underlying33
 have hu26:=Try.underlying26
 have hu29:=Try.underlying29
 have hu31:=Try.underlying31
 have HR0_3:=mk0 hr0_3
 have HC0_3:=mk0 hc0_3
 clear hr0_3 hc0_3
 have HR0_4:=mk0 hr0_4
 have HC0_4:=mk0 hc0_4
 clear hr0_4 hc0_4
 have HR0_5:=mk0 hr0_5
 have HC0_5:=mk0 hc0_5
 clear hr0_5 hc0_5
 have HR0_7:=mk0 hr0_7
 have HC0_7:=mk0 hc0_7
 clear hr0_7 hc0_7
 have HR0_11:=mk0 hr0_11
 have HC0_11:=mk0 hc0_11
 clear hr0_11 hc0_11
 have HR0_15:=mk0 hr0_15
 have HC0_15:=mk0 hc0_15
 clear hr0_15 hc0_15
 have HR1_3:=mk0 hr1_3
 have HC1_3:=mk0 hc1_3
 clear hr1_3 hc1_3
 have HR1_4:=mk0 hr1_4
 have HC1_4:=mk0 hc1_4
 clear hr1_4 hc1_4
 have HR1_5:=mk0 hr1_5
 have HC1_5:=mk0 hc1_5
 clear hr1_5 hc1_5
 have HR1_7:=mk0 hr1_7
 have HC1_7:=mk0 hc1_7
 clear hr1_7 hc1_7
 have HR1_11:=mk0 hr1_11
 have HC1_11:=mk0 hc1_11
 clear hr1_11 hc1_11
 have HR1_15:=mk0 hr1_15
 have HC1_15:=mk0 hc1_15
 clear hr1_15 hc1_15
 have HB:=mk0 (Below.refl w.heap.size w)
 have H:(if a0_0 = a1_0 then (if a0_1 = a1_1 then ((laws_eqWave.f k a0_2 l0_3 l0_4 a1_2 l1_3 l1_4).bind fun t530=>(if t530 = true then ((laws_eqIntS.f k l0_5 l1_5).bind fun t531=>(if t531 = true then ((laws_eqBits.f k a0_6 l0_7 a1_6 l1_7).bind fun t532=>(if t532 = true then ((laws_eqPacked.f k a0_8 a0_9 a0_10 l0_11 a1_8 a1_9 a1_10 l1_11).bind fun t533=>(if t533 = true then ((laws_eqPacked.f k a0_12 a0_13 a0_14 l0_15 a1_12 a1_13 a1_14 l1_15).bind fun t534=>(if t534 = true then (some true) else (none))) else (none))) else (none))) else (none))) else (none))) else (none)) else (none)) = some r:=h
 clear h
 by_cases c3:a0_0 = a1_0
 rotate_left
 ·rw [if_neg c3] at H
  exact nn H
 rw [if_pos c3] at H
 have c3b0:(a0_0 == a1_0) = true:=beq_iff_eq.mpr c3
 have c3b1:(a0_0 != a1_0) = false:=bne_eq_false_iff_eq.mpr c3
 clear c3
 by_cases c4:a0_1 = a1_1
 rotate_left
 ·rw [if_neg c4] at H
  exact nn H
 rw [if_pos c4] at H
 have c4b0:(a0_1 == a1_1) = true:=beq_iff_eq.mpr c4
 have c4b1:(a0_1 != a1_1) = false:=bne_eq_false_iff_eq.mpr c4
 clear c4
 replace H:=bE H
 obtain⟨t530,A5,H⟩:=H
 by_cases c6:t530 = true
 rotate_left
 ·replace c6:=Bool.eq_false_iff.mpr c6
  subst c6
  replace H:=iF H
  exact nn H
 subst c6
 replace H:=iT H
 replace H:=bE H
 obtain⟨t531,A7,H⟩:=H
 by_cases c8:t531 = true
 rotate_left
 ·replace c8:=Bool.eq_false_iff.mpr c8
  subst c8
  replace H:=iF H
  exact nn H
 subst c8
 replace H:=iT H
 replace H:=bE H
 obtain⟨t532,A9,H⟩:=H
 by_cases c10:t532 = true
 rotate_left
 ·replace c10:=Bool.eq_false_iff.mpr c10
  subst c10
  replace H:=iF H
  exact nn H
 subst c10
 replace H:=iT H
 replace H:=bE H
 obtain⟨t533,A11,H⟩:=H
 by_cases c12:t533 = true
 rotate_left
 ·replace c12:=Bool.eq_false_iff.mpr c12
  subst c12
  replace H:=iF H
  exact nn H
 subst c12
 replace H:=iT H
 replace H:=bE H
 obtain⟨t534,A13,H⟩:=H
 by_cases c14:t534 = true
 rotate_left
 ·replace c14:=Bool.eq_false_iff.mpr c14
  subst c14
  replace H:=iF H
  exact nn H
 subst c14
 replace H:=iT H
 obtain rfl:=Option.some.inj H
 go_enter Try.func7,Try.ntmps7
 go_wp2_with (first|((with_reducible refine gate_dst (N:=2) rfl ?_);refine box_event ?hg (N:=2) ?hd (cs:=#[.int .i64 a0_0,.int .i64 a0_1,.int .i64 a0_2,.slice A0_3 l0_3.length c0_3,.slice A0_4 l0_4.length c0_4,.slice A0_5 l0_5.length c0_5,.int .i64 a0_6,.slice A0_7 l0_7.length c0_7,.int .i64 a0_8,.int .i64 a0_9,.int .i64 a0_10,.slice A0_11 l0_11.length c0_11,.int .i64 a0_12,.int .i64 a0_13,.int .i64 a0_14,.slice A0_15 l0_15.length c0_15]) (t:=33) ?hr ?_;(case hd=>rfl);(case hg=>rfl);(case hr=>first|(go_simp;done)|(go_simp;rfl));intro gb528 hg w15 hbox hb;have BK528:=mk0 (hbox);have GW528:=mk0 ((by rw [hg];exact (kZ HB.out):w.heap.size ≤ gb528));have GE528:=mk0 ((by rw [hg];exact (kZ HB.out):w.heap.size ≤ gb528));replace HB:=mk0 (kS HB.out hb);clear hb hbox hg)|((with_reducible refine gate_dst (N:=3) rfl ?_);refine box_event ?hg (N:=3) ?hd (cs:=#[.int .i64 a1_0,.int .i64 a1_1,.int .i64 a1_2,.slice A1_3 l1_3.length c1_3,.slice A1_4 l1_4.length c1_4,.slice A1_5 l1_5.length c1_5,.int .i64 a1_6,.slice A1_7 l1_7.length c1_7,.int .i64 a1_8,.int .i64 a1_9,.int .i64 a1_10,.slice A1_11 l1_11.length c1_11,.int .i64 a1_12,.int .i64 a1_13,.int .i64 a1_14,.slice A1_15 l1_15.length c1_15]) (t:=33) ?hr ?_;(case hd=>rfl);(case hg=>rfl);(case hr=>first|(go_simp;done)|(go_simp;rfl));intro gb529 hg w16 hbox hb;have BK529:=mk0 (hbox);have GW529:=mk0 ((by rw [hg];exact (kZ HB.out):w.heap.size ≤ gb529));have GE529:=mk0 ((by rw [hg];exact (kZ HB.out):w.heap.size ≤ gb529));replace HB:=mk0 (kS HB.out hb);have NB528_529:=mk0 ((by rw [hg];exact Nat.ne_of_lt (kL BK528.out):gb528 ≠ gb529));have NB529_528:=mk0 ((by rw [hg];exact Nat.ne_of_gt (kL BK528.out):gb529 ≠ gb528));replace BK528:=mk0 (kK BK528.out hb);clear hb hbox hg;have hnb17:=NB528_529.out;have hnc17:=NB529_528.out;have hcz18_0:w16.cell? ⟨gb528,0,none⟩ = some (.int .i64 a0_0):=(blk_cell BK528.out 0).trans rfl;have hcz18_1:w16.cell? ⟨gb528,1,none⟩ = some (.int .i64 a0_1):=(blk_cell BK528.out 1).trans rfl;have hcz18_2:w16.cell? ⟨gb528,2,none⟩ = some (.int .i64 a0_2):=(blk_cell BK528.out 2).trans rfl;have hcz18_3:w16.cell? ⟨gb528,3,none⟩ = some (.slice A0_3 l0_3.length c0_3):=(blk_cell BK528.out 3).trans rfl;have hcz18_4:w16.cell? ⟨gb528,4,none⟩ = some (.slice A0_4 l0_4.length c0_4):=(blk_cell BK528.out 4).trans rfl;have hcz18_5:w16.cell? ⟨gb528,5,none⟩ = some (.slice A0_5 l0_5.length c0_5):=(blk_cell BK528.out 5).trans rfl;have hcz18_6:w16.cell? ⟨gb528,6,none⟩ = some (.int .i64 a0_6):=(blk_cell BK528.out 6).trans rfl;have hcz18_7:w16.cell? ⟨gb528,7,none⟩ = some (.slice A0_7 l0_7.length c0_7):=(blk_cell BK528.out 7).trans rfl;have hcz18_8:w16.cell? ⟨gb528,8,none⟩ = some (.int .i64 a0_8):=(blk_cell BK528.out 8).trans rfl;have hcz18_9:w16.cell? ⟨gb528,9,none⟩ = some (.int .i64 a0_9):=(blk_cell BK528.out 9).trans rfl;have hcz18_10:w16.cell? ⟨gb528,10,none⟩ = some (.int .i64 a0_10):=(blk_cell BK528.out 10).trans rfl;have hcz18_11:w16.cell? ⟨gb528,11,none⟩ = some (.slice A0_11 l0_11.length c0_11):=(blk_cell BK528.out 11).trans rfl;have hcz18_12:w16.cell? ⟨gb528,12,none⟩ = some (.int .i64 a0_12):=(blk_cell BK528.out 12).trans rfl;have hcz18_13:w16.cell? ⟨gb528,13,none⟩ = some (.int .i64 a0_13):=(blk_cell BK528.out 13).trans rfl;have hcz18_14:w16.cell? ⟨gb528,14,none⟩ = some (.int .i64 a0_14):=(blk_cell BK528.out 14).trans rfl;have hcz18_15:w16.cell? ⟨gb528,15,none⟩ = some (.slice A0_15 l0_15.length c0_15):=(blk_cell BK528.out 15).trans rfl;have hfz18_0:=blk_frozen BK528.out 0;have hfz18_1:=blk_frozen BK528.out 1;have hfz18_2:=blk_frozen BK528.out 2;have hfz18_3:=blk_frozen BK528.out 3;have hfz18_4:=blk_frozen BK528.out 4;have hfz18_5:=blk_frozen BK528.out 5;have hfz18_6:=blk_frozen BK528.out 6;have hfz18_7:=blk_frozen BK528.out 7;have hfz18_8:=blk_frozen BK528.out 8;have hfz18_9:=blk_frozen BK528.out 9;have hfz18_10:=blk_frozen BK528.out 10;have hfz18_11:=blk_frozen BK528.out 11;have hfz18_12:=blk_frozen BK528.out 12;have hfz18_13:=blk_frozen BK528.out 13;have hfz18_14:=blk_frozen BK528.out 14;have hfz18_15:=blk_frozen BK528.out 15;have hcz19_0:w16.cell? ⟨gb529,0,none⟩ = some (.int .i64 a1_0):=(blk_cell BK529.out 0).trans rfl;have hcz19_1:w16.cell? ⟨gb529,1,none⟩ = some (.int .i64 a1_1):=(blk_cell BK529.out 1).trans rfl;have hcz19_2:w16.cell? ⟨gb529,2,none⟩ = some (.int .i64 a1_2):=(blk_cell BK529.out 2).trans rfl;have hcz19_3:w16.cell? ⟨gb529,3,none⟩ = some (.slice A1_3 l1_3.length c1_3):=(blk_cell BK529.out 3).trans rfl;have hcz19_4:w16.cell? ⟨gb529,4,none⟩ = some (.slice A1_4 l1_4.length c1_4):=(blk_cell BK529.out 4).trans rfl;have hcz19_5:w16.cell? ⟨gb529,5,none⟩ = some (.slice A1_5 l1_5.length c1_5):=(blk_cell BK529.out 5).trans rfl;have hcz19_6:w16.cell? ⟨gb529,6,none⟩ = some (.int .i64 a1_6):=(blk_cell BK529.out 6).trans rfl;have hcz19_7:w16.cell? ⟨gb529,7,none⟩ = some (.slice A1_7 l1_7.length c1_7):=(blk_cell BK529.out 7).trans rfl;have hcz19_8:w16.cell? ⟨gb529,8,none⟩ = some (.int .i64 a1_8):=(blk_cell BK529.out 8).trans rfl;have hcz19_9:w16.cell? ⟨gb529,9,none⟩ = some (.int .i64 a1_9):=(blk_cell BK529.out 9).trans rfl;have hcz19_10:w16.cell? ⟨gb529,10,none⟩ = some (.int .i64 a1_10):=(blk_cell BK529.out 10).trans rfl;have hcz19_11:w16.cell? ⟨gb529,11,none⟩ = some (.slice A1_11 l1_11.length c1_11):=(blk_cell BK529.out 11).trans rfl;have hcz19_12:w16.cell? ⟨gb529,12,none⟩ = some (.int .i64 a1_12):=(blk_cell BK529.out 12).trans rfl;have hcz19_13:w16.cell? ⟨gb529,13,none⟩ = some (.int .i64 a1_13):=(blk_cell BK529.out 13).trans rfl;have hcz19_14:w16.cell? ⟨gb529,14,none⟩ = some (.int .i64 a1_14):=(blk_cell BK529.out 14).trans rfl;have hcz19_15:w16.cell? ⟨gb529,15,none⟩ = some (.slice A1_15 l1_15.length c1_15):=(blk_cell BK529.out 15).trans rfl;have hfz19_0:=blk_frozen BK529.out 0;have hfz19_1:=blk_frozen BK529.out 1;have hfz19_2:=blk_frozen BK529.out 2;have hfz19_3:=blk_frozen BK529.out 3;have hfz19_4:=blk_frozen BK529.out 4;have hfz19_5:=blk_frozen BK529.out 5;have hfz19_6:=blk_frozen BK529.out 6;have hfz19_7:=blk_frozen BK529.out 7;have hfz19_8:=blk_frozen BK529.out 8;have hfz19_9:=blk_frozen BK529.out 9;have hfz19_10:=blk_frozen BK529.out 10;have hfz19_11:=blk_frozen BK529.out 11;have hfz19_12:=blk_frozen BK529.out 12;have hfz19_13:=blk_frozen BK529.out 13;have hfz19_14:=blk_frozen BK529.out 14;have hfz19_15:=blk_frozen BK529.out 15)|((with_reducible refine gate_callee (f:=26) rfl ?_);refine gL (some 19) Try.func26 #[.agg #[.int .i64 a0_2,.slice A0_3 l0_3.length c0_3,.slice A0_4 l0_4.length c0_4],.agg #[.int .i64 a1_2,.slice A1_3 l1_3.length c1_3,.slice A1_4 l1_4.length c1_4]] ?_;(with_reducible refine (laws_eqWave.calls k a0_2 _ _ l0_3 _ _ l0_4 a1_2 _ _ l1_3 _ _ l1_4 true _ ?side1 ?side2 ?side3 ?side4 ?side5 ?side6 ?side7 ?side8 A5.out).mono ?_);(case side1=>exact kC (Kd.C_below HR0_3.out HB.out));(case side2=>exact HC0_3.out);(case side3=>exact kC (Kd.C_below HR0_4.out HB.out));(case side4=>exact HC0_4.out);(case side5=>exact kC (Kd.C_below HR1_3.out HB.out));(case side6=>exact HC1_3.out);(case side7=>exact kC (Kd.C_below HR1_4.out HB.out));(case side8=>exact HC1_4.out);rintro e w20 ⟨rfl,hb⟩;refine⟨_,rfl,?_⟩;replace BK528:=mk0 (kK BK528.out hb);replace BK529:=mk0 (kK BK529.out hb);replace HB:=mk0 (kS HB.out hb);(try clear hb);have hcz21_0:w20.cell? ⟨gb528,0,none⟩ = some (.int .i64 a0_0):=(blk_cell BK528.out 0).trans rfl;have hcz21_1:w20.cell? ⟨gb528,1,none⟩ = some (.int .i64 a0_1):=(blk_cell BK528.out 1).trans rfl;have hcz21_2:w20.cell? ⟨gb528,2,none⟩ = some (.int .i64 a0_2):=(blk_cell BK528.out 2).trans rfl;have hcz21_3:w20.cell? ⟨gb528,3,none⟩ = some (.slice A0_3 l0_3.length c0_3):=(blk_cell BK528.out 3).trans rfl;have hcz21_4:w20.cell? ⟨gb528,4,none⟩ = some (.slice A0_4 l0_4.length c0_4):=(blk_cell BK528.out 4).trans rfl;have hcz21_5:w20.cell? ⟨gb528,5,none⟩ = some (.slice A0_5 l0_5.length c0_5):=(blk_cell BK528.out 5).trans rfl;have hcz21_6:w20.cell? ⟨gb528,6,none⟩ = some (.int .i64 a0_6):=(blk_cell BK528.out 6).trans rfl;have hcz21_7:w20.cell? ⟨gb528,7,none⟩ = some (.slice A0_7 l0_7.length c0_7):=(blk_cell BK528.out 7).trans rfl;have hcz21_8:w20.cell? ⟨gb528,8,none⟩ = some (.int .i64 a0_8):=(blk_cell BK528.out 8).trans rfl;have hcz21_9:w20.cell? ⟨gb528,9,none⟩ = some (.int .i64 a0_9):=(blk_cell BK528.out 9).trans rfl;have hcz21_10:w20.cell? ⟨gb528,10,none⟩ = some (.int .i64 a0_10):=(blk_cell BK528.out 10).trans rfl;have hcz21_11:w20.cell? ⟨gb528,11,none⟩ = some (.slice A0_11 l0_11.length c0_11):=(blk_cell BK528.out 11).trans rfl;have hcz21_12:w20.cell? ⟨gb528,12,none⟩ = some (.int .i64 a0_12):=(blk_cell BK528.out 12).trans rfl;have hcz21_13:w20.cell? ⟨gb528,13,none⟩ = some (.int .i64 a0_13):=(blk_cell BK528.out 13).trans rfl;have hcz21_14:w20.cell? ⟨gb528,14,none⟩ = some (.int .i64 a0_14):=(blk_cell BK528.out 14).trans rfl;have hcz21_15:w20.cell? ⟨gb528,15,none⟩ = some (.slice A0_15 l0_15.length c0_15):=(blk_cell BK528.out 15).trans rfl;have hfz21_0:=blk_frozen BK528.out 0;have hfz21_1:=blk_frozen BK528.out 1;have hfz21_2:=blk_frozen BK528.out 2;have hfz21_3:=blk_frozen BK528.out 3;have hfz21_4:=blk_frozen BK528.out 4;have hfz21_5:=blk_frozen BK528.out 5;have hfz21_6:=blk_frozen BK528.out 6;have hfz21_7:=blk_frozen BK528.out 7;have hfz21_8:=blk_frozen BK528.out 8;have hfz21_9:=blk_frozen BK528.out 9;have hfz21_10:=blk_frozen BK528.out 10;have hfz21_11:=blk_frozen BK528.out 11;have hfz21_12:=blk_frozen BK528.out 12;have hfz21_13:=blk_frozen BK528.out 13;have hfz21_14:=blk_frozen BK528.out 14;have hfz21_15:=blk_frozen BK528.out 15;have hcz22_0:w20.cell? ⟨gb529,0,none⟩ = some (.int .i64 a1_0):=(blk_cell BK529.out 0).trans rfl;have hcz22_1:w20.cell? ⟨gb529,1,none⟩ = some (.int .i64 a1_1):=(blk_cell BK529.out 1).trans rfl;have hcz22_2:w20.cell? ⟨gb529,2,none⟩ = some (.int .i64 a1_2):=(blk_cell BK529.out 2).trans rfl;have hcz22_3:w20.cell? ⟨gb529,3,none⟩ = some (.slice A1_3 l1_3.length c1_3):=(blk_cell BK529.out 3).trans rfl;have hcz22_4:w20.cell? ⟨gb529,4,none⟩ = some (.slice A1_4 l1_4.length c1_4):=(blk_cell BK529.out 4).trans rfl;have hcz22_5:w20.cell? ⟨gb529,5,none⟩ = some (.slice A1_5 l1_5.length c1_5):=(blk_cell BK529.out 5).trans rfl;have hcz22_6:w20.cell? ⟨gb529,6,none⟩ = some (.int .i64 a1_6):=(blk_cell BK529.out 6).trans rfl;have hcz22_7:w20.cell? ⟨gb529,7,none⟩ = some (.slice A1_7 l1_7.length c1_7):=(blk_cell BK529.out 7).trans rfl;have hcz22_8:w20.cell? ⟨gb529,8,none⟩ = some (.int .i64 a1_8):=(blk_cell BK529.out 8).trans rfl;have hcz22_9:w20.cell? ⟨gb529,9,none⟩ = some (.int .i64 a1_9):=(blk_cell BK529.out 9).trans rfl;have hcz22_10:w20.cell? ⟨gb529,10,none⟩ = some (.int .i64 a1_10):=(blk_cell BK529.out 10).trans rfl;have hcz22_11:w20.cell? ⟨gb529,11,none⟩ = some (.slice A1_11 l1_11.length c1_11):=(blk_cell BK529.out 11).trans rfl;have hcz22_12:w20.cell? ⟨gb529,12,none⟩ = some (.int .i64 a1_12):=(blk_cell BK529.out 12).trans rfl;have hcz22_13:w20.cell? ⟨gb529,13,none⟩ = some (.int .i64 a1_13):=(blk_cell BK529.out 13).trans rfl;have hcz22_14:w20.cell? ⟨gb529,14,none⟩ = some (.int .i64 a1_14):=(blk_cell BK529.out 14).trans rfl;have hcz22_15:w20.cell? ⟨gb529,15,none⟩ = some (.slice A1_15 l1_15.length c1_15):=(blk_cell BK529.out 15).trans rfl;have hfz22_0:=blk_frozen BK529.out 0;have hfz22_1:=blk_frozen BK529.out 1;have hfz22_2:=blk_frozen BK529.out 2;have hfz22_3:=blk_frozen BK529.out 3;have hfz22_4:=blk_frozen BK529.out 4;have hfz22_5:=blk_frozen BK529.out 5;have hfz22_6:=blk_frozen BK529.out 6;have hfz22_7:=blk_frozen BK529.out 7;have hfz22_8:=blk_frozen BK529.out 8;have hfz22_9:=blk_frozen BK529.out 9;have hfz22_10:=blk_frozen BK529.out 10;have hfz22_11:=blk_frozen BK529.out 11;have hfz22_12:=blk_frozen BK529.out 12;have hfz22_13:=blk_frozen BK529.out 13;have hfz22_14:=blk_frozen BK529.out 14;have hfz22_15:=blk_frozen BK529.out 15)|((with_reducible refine gate_callee (f:=27) rfl ?_);refine gL (some 25) Try.func27 #[.slice A0_5 l0_5.length c0_5,.slice A1_5 l1_5.length c1_5] ?_;(with_reducible refine (laws_eqIntS.calls k _ _ l0_5 _ _ l1_5 true _ ?side1 ?side2 ?side3 ?side4 A7.out).mono ?_);(case side1=>exact kC (Kd.C_below HR0_5.out HB.out));(case side2=>exact HC0_5.out);(case side3=>exact kC (Kd.C_below HR1_5.out HB.out));(case side4=>exact HC1_5.out);rintro e w' ⟨rfl,⟨nd,rfl⟩⟩;refine⟨_,rfl,?_⟩)|((with_reducible refine gate_callee (f:=28) rfl ?_);refine gL (some 31) Try.func28 #[.agg #[.int .i64 a0_6,.slice A0_7 l0_7.length c0_7],.agg #[.int .i64 a1_6,.slice A1_7 l1_7.length c1_7]] ?_;(with_reducible refine (laws_eqBits.calls k a0_6 _ _ l0_7 a1_6 _ _ l1_7 true _ ?side1 ?side2 ?side3 ?side4 A9.out).mono ?_);(case side1=>repeat (first|exact (Kd.C_below HR0_7.out (kB HB.out))|(with_reducible first|apply aC|apply nC|apply dC)));(case side2=>exact HC0_7.out);(case side3=>repeat (first|exact (Kd.C_below HR1_7.out (kB HB.out))|(with_reducible first|apply aC|apply nC|apply dC)));(case side4=>exact HC1_7.out);rintro e w23 ⟨rfl,hb⟩;refine⟨_,rfl,?_⟩;replace BK528:=mk0 (kK BK528.out hb);replace BK529:=mk0 (kK BK529.out hb);replace HB:=mk0 (kS HB.out hb);(try clear hb);have hcz24_0:w23.cell? ⟨gb528,0,none⟩ = some (.int .i64 a0_0):=(blk_cell BK528.out 0).trans rfl;have hcz24_1:w23.cell? ⟨gb528,1,none⟩ = some (.int .i64 a0_1):=(blk_cell BK528.out 1).trans rfl;have hcz24_2:w23.cell? ⟨gb528,2,none⟩ = some (.int .i64 a0_2):=(blk_cell BK528.out 2).trans rfl;have hcz24_3:w23.cell? ⟨gb528,3,none⟩ = some (.slice A0_3 l0_3.length c0_3):=(blk_cell BK528.out 3).trans rfl;have hcz24_4:w23.cell? ⟨gb528,4,none⟩ = some (.slice A0_4 l0_4.length c0_4):=(blk_cell BK528.out 4).trans rfl;have hcz24_5:w23.cell? ⟨gb528,5,none⟩ = some (.slice A0_5 l0_5.length c0_5):=(blk_cell BK528.out 5).trans rfl;have hcz24_6:w23.cell? ⟨gb528,6,none⟩ = some (.int .i64 a0_6):=(blk_cell BK528.out 6).trans rfl;have hcz24_7:w23.cell? ⟨gb528,7,none⟩ = some (.slice A0_7 l0_7.length c0_7):=(blk_cell BK528.out 7).trans rfl;have hcz24_8:w23.cell? ⟨gb528,8,none⟩ = some (.int .i64 a0_8):=(blk_cell BK528.out 8).trans rfl;have hcz24_9:w23.cell? ⟨gb528,9,none⟩ = some (.int .i64 a0_9):=(blk_cell BK528.out 9).trans rfl;have hcz24_10:w23.cell? ⟨gb528,10,none⟩ = some (.int .i64 a0_10):=(blk_cell BK528.out 10).trans rfl;have hcz24_11:w23.cell? ⟨gb528,11,none⟩ = some (.slice A0_11 l0_11.length c0_11):=(blk_cell BK528.out 11).trans rfl;have hcz24_12:w23.cell? ⟨gb528,12,none⟩ = some (.int .i64 a0_12):=(blk_cell BK528.out 12).trans rfl;have hcz24_13:w23.cell? ⟨gb528,13,none⟩ = some (.int .i64 a0_13):=(blk_cell BK528.out 13).trans rfl;have hcz24_14:w23.cell? ⟨gb528,14,none⟩ = some (.int .i64 a0_14):=(blk_cell BK528.out 14).trans rfl;have hcz24_15:w23.cell? ⟨gb528,15,none⟩ = some (.slice A0_15 l0_15.length c0_15):=(blk_cell BK528.out 15).trans rfl;have hfz24_0:=blk_frozen BK528.out 0;have hfz24_1:=blk_frozen BK528.out 1;have hfz24_2:=blk_frozen BK528.out 2;have hfz24_3:=blk_frozen BK528.out 3;have hfz24_4:=blk_frozen BK528.out 4;have hfz24_5:=blk_frozen BK528.out 5;have hfz24_6:=blk_frozen BK528.out 6;have hfz24_7:=blk_frozen BK528.out 7;have hfz24_8:=blk_frozen BK528.out 8;have hfz24_9:=blk_frozen BK528.out 9;have hfz24_10:=blk_frozen BK528.out 10;have hfz24_11:=blk_frozen BK528.out 11;have hfz24_12:=blk_frozen BK528.out 12;have hfz24_13:=blk_frozen BK528.out 13;have hfz24_14:=blk_frozen BK528.out 14;have hfz24_15:=blk_frozen BK528.out 15;have hcz25_0:w23.cell? ⟨gb529,0,none⟩ = some (.int .i64 a1_0):=(blk_cell BK529.out 0).trans rfl;have hcz25_1:w23.cell? ⟨gb529,1,none⟩ = some (.int .i64 a1_1):=(blk_cell BK529.out 1).trans rfl;have hcz25_2:w23.cell? ⟨gb529,2,none⟩ = some (.int .i64 a1_2):=(blk_cell BK529.out 2).trans rfl;have hcz25_3:w23.cell? ⟨gb529,3,none⟩ = some (.slice A1_3 l1_3.length c1_3):=(blk_cell BK529.out 3).trans rfl;have hcz25_4:w23.cell? ⟨gb529,4,none⟩ = some (.slice A1_4 l1_4.length c1_4):=(blk_cell BK529.out 4).trans rfl;have hcz25_5:w23.cell? ⟨gb529,5,none⟩ = some (.slice A1_5 l1_5.length c1_5):=(blk_cell BK529.out 5).trans rfl;have hcz25_6:w23.cell? ⟨gb529,6,none⟩ = some (.int .i64 a1_6):=(blk_cell BK529.out 6).trans rfl;have hcz25_7:w23.cell? ⟨gb529,7,none⟩ = some (.slice A1_7 l1_7.length c1_7):=(blk_cell BK529.out 7).trans rfl;have hcz25_8:w23.cell? ⟨gb529,8,none⟩ = some (.int .i64 a1_8):=(blk_cell BK529.out 8).trans rfl;have hcz25_9:w23.cell? ⟨gb529,9,none⟩ = some (.int .i64 a1_9):=(blk_cell BK529.out 9).trans rfl;have hcz25_10:w23.cell? ⟨gb529,10,none⟩ = some (.int .i64 a1_10):=(blk_cell BK529.out 10).trans rfl;have hcz25_11:w23.cell? ⟨gb529,11,none⟩ = some (.slice A1_11 l1_11.length c1_11):=(blk_cell BK529.out 11).trans rfl;have hcz25_12:w23.cell? ⟨gb529,12,none⟩ = some (.int .i64 a1_12):=(blk_cell BK529.out 12).trans rfl;have hcz25_13:w23.cell? ⟨gb529,13,none⟩ = some (.int .i64 a1_13):=(blk_cell BK529.out 13).trans rfl;have hcz25_14:w23.cell? ⟨gb529,14,none⟩ = some (.int .i64 a1_14):=(blk_cell BK529.out 14).trans rfl;have hcz25_15:w23.cell? ⟨gb529,15,none⟩ = some (.slice A1_15 l1_15.length c1_15):=(blk_cell BK529.out 15).trans rfl;have hfz25_0:=blk_frozen BK529.out 0;have hfz25_1:=blk_frozen BK529.out 1;have hfz25_2:=blk_frozen BK529.out 2;have hfz25_3:=blk_frozen BK529.out 3;have hfz25_4:=blk_frozen BK529.out 4;have hfz25_5:=blk_frozen BK529.out 5;have hfz25_6:=blk_frozen BK529.out 6;have hfz25_7:=blk_frozen BK529.out 7;have hfz25_8:=blk_frozen BK529.out 8;have hfz25_9:=blk_frozen BK529.out 9;have hfz25_10:=blk_frozen BK529.out 10;have hfz25_11:=blk_frozen BK529.out 11;have hfz25_12:=blk_frozen BK529.out 12;have hfz25_13:=blk_frozen BK529.out 13;have hfz25_14:=blk_frozen BK529.out 14;have hfz25_15:=blk_frozen BK529.out 15)|((with_reducible refine gate_callee (f:=29) rfl ?_);refine gL (some 37) Try.func29 #[.agg #[.int .i64 a0_8,.int .i64 a0_9,.int .i64 a0_10,.slice A0_11 l0_11.length c0_11],.agg #[.int .i64 a1_8,.int .i64 a1_9,.int .i64 a1_10,.slice A1_11 l1_11.length c1_11]] ?_;(with_reducible refine (laws_eqPacked.calls k a0_8 a0_9 a0_10 _ _ l0_11 a1_8 a1_9 a1_10 _ _ l1_11 true _ ?side1 ?side2 ?side3 ?side4 A11.out).mono ?_);(case side1=>exact kC (Kd.C_below HR0_11.out HB.out));(case side2=>exact HC0_11.out);(case side3=>exact kC (Kd.C_below HR1_11.out HB.out));(case side4=>exact HC1_11.out);rintro e w26 ⟨rfl,hb⟩;refine⟨_,rfl,?_⟩;replace BK528:=mk0 (kK BK528.out hb);replace BK529:=mk0 (kK BK529.out hb);replace HB:=mk0 (kS HB.out hb);(try clear hb);have hcz27_0:w26.cell? ⟨gb528,0,none⟩ = some (.int .i64 a0_0):=(blk_cell BK528.out 0).trans rfl;have hcz27_1:w26.cell? ⟨gb528,1,none⟩ = some (.int .i64 a0_1):=(blk_cell BK528.out 1).trans rfl;have hcz27_2:w26.cell? ⟨gb528,2,none⟩ = some (.int .i64 a0_2):=(blk_cell BK528.out 2).trans rfl;have hcz27_3:w26.cell? ⟨gb528,3,none⟩ = some (.slice A0_3 l0_3.length c0_3):=(blk_cell BK528.out 3).trans rfl;have hcz27_4:w26.cell? ⟨gb528,4,none⟩ = some (.slice A0_4 l0_4.length c0_4):=(blk_cell BK528.out 4).trans rfl;have hcz27_5:w26.cell? ⟨gb528,5,none⟩ = some (.slice A0_5 l0_5.length c0_5):=(blk_cell BK528.out 5).trans rfl;have hcz27_6:w26.cell? ⟨gb528,6,none⟩ = some (.int .i64 a0_6):=(blk_cell BK528.out 6).trans rfl;have hcz27_7:w26.cell? ⟨gb528,7,none⟩ = some (.slice A0_7 l0_7.length c0_7):=(blk_cell BK528.out 7).trans rfl;have hcz27_8:w26.cell? ⟨gb528,8,none⟩ = some (.int .i64 a0_8):=(blk_cell BK528.out 8).trans rfl;have hcz27_9:w26.cell? ⟨gb528,9,none⟩ = some (.int .i64 a0_9):=(blk_cell BK528.out 9).trans rfl;have hcz27_10:w26.cell? ⟨gb528,10,none⟩ = some (.int .i64 a0_10):=(blk_cell BK528.out 10).trans rfl;have hcz27_11:w26.cell? ⟨gb528,11,none⟩ = some (.slice A0_11 l0_11.length c0_11):=(blk_cell BK528.out 11).trans rfl;have hcz27_12:w26.cell? ⟨gb528,12,none⟩ = some (.int .i64 a0_12):=(blk_cell BK528.out 12).trans rfl;have hcz27_13:w26.cell? ⟨gb528,13,none⟩ = some (.int .i64 a0_13):=(blk_cell BK528.out 13).trans rfl;have hcz27_14:w26.cell? ⟨gb528,14,none⟩ = some (.int .i64 a0_14):=(blk_cell BK528.out 14).trans rfl;have hcz27_15:w26.cell? ⟨gb528,15,none⟩ = some (.slice A0_15 l0_15.length c0_15):=(blk_cell BK528.out 15).trans rfl;have hfz27_0:=blk_frozen BK528.out 0;have hfz27_1:=blk_frozen BK528.out 1;have hfz27_2:=blk_frozen BK528.out 2;have hfz27_3:=blk_frozen BK528.out 3;have hfz27_4:=blk_frozen BK528.out 4;have hfz27_5:=blk_frozen BK528.out 5;have hfz27_6:=blk_frozen BK528.out 6;have hfz27_7:=blk_frozen BK528.out 7;have hfz27_8:=blk_frozen BK528.out 8;have hfz27_9:=blk_frozen BK528.out 9;have hfz27_10:=blk_frozen BK528.out 10;have hfz27_11:=blk_frozen BK528.out 11;have hfz27_12:=blk_frozen BK528.out 12;have hfz27_13:=blk_frozen BK528.out 13;have hfz27_14:=blk_frozen BK528.out 14;have hfz27_15:=blk_frozen BK528.out 15;have hcz28_0:w26.cell? ⟨gb529,0,none⟩ = some (.int .i64 a1_0):=(blk_cell BK529.out 0).trans rfl;have hcz28_1:w26.cell? ⟨gb529,1,none⟩ = some (.int .i64 a1_1):=(blk_cell BK529.out 1).trans rfl;have hcz28_2:w26.cell? ⟨gb529,2,none⟩ = some (.int .i64 a1_2):=(blk_cell BK529.out 2).trans rfl;have hcz28_3:w26.cell? ⟨gb529,3,none⟩ = some (.slice A1_3 l1_3.length c1_3):=(blk_cell BK529.out 3).trans rfl;have hcz28_4:w26.cell? ⟨gb529,4,none⟩ = some (.slice A1_4 l1_4.length c1_4):=(blk_cell BK529.out 4).trans rfl;have hcz28_5:w26.cell? ⟨gb529,5,none⟩ = some (.slice A1_5 l1_5.length c1_5):=(blk_cell BK529.out 5).trans rfl;have hcz28_6:w26.cell? ⟨gb529,6,none⟩ = some (.int .i64 a1_6):=(blk_cell BK529.out 6).trans rfl;have hcz28_7:w26.cell? ⟨gb529,7,none⟩ = some (.slice A1_7 l1_7.length c1_7):=(blk_cell BK529.out 7).trans rfl;have hcz28_8:w26.cell? ⟨gb529,8,none⟩ = some (.int .i64 a1_8):=(blk_cell BK529.out 8).trans rfl;have hcz28_9:w26.cell? ⟨gb529,9,none⟩ = some (.int .i64 a1_9):=(blk_cell BK529.out 9).trans rfl;have hcz28_10:w26.cell? ⟨gb529,10,none⟩ = some (.int .i64 a1_10):=(blk_cell BK529.out 10).trans rfl;have hcz28_11:w26.cell? ⟨gb529,11,none⟩ = some (.slice A1_11 l1_11.length c1_11):=(blk_cell BK529.out 11).trans rfl;have hcz28_12:w26.cell? ⟨gb529,12,none⟩ = some (.int .i64 a1_12):=(blk_cell BK529.out 12).trans rfl;have hcz28_13:w26.cell? ⟨gb529,13,none⟩ = some (.int .i64 a1_13):=(blk_cell BK529.out 13).trans rfl;have hcz28_14:w26.cell? ⟨gb529,14,none⟩ = some (.int .i64 a1_14):=(blk_cell BK529.out 14).trans rfl;have hcz28_15:w26.cell? ⟨gb529,15,none⟩ = some (.slice A1_15 l1_15.length c1_15):=(blk_cell BK529.out 15).trans rfl;have hfz28_0:=blk_frozen BK529.out 0;have hfz28_1:=blk_frozen BK529.out 1;have hfz28_2:=blk_frozen BK529.out 2;have hfz28_3:=blk_frozen BK529.out 3;have hfz28_4:=blk_frozen BK529.out 4;have hfz28_5:=blk_frozen BK529.out 5;have hfz28_6:=blk_frozen BK529.out 6;have hfz28_7:=blk_frozen BK529.out 7;have hfz28_8:=blk_frozen BK529.out 8;have hfz28_9:=blk_frozen BK529.out 9;have hfz28_10:=blk_frozen BK529.out 10;have hfz28_11:=blk_frozen BK529.out 11;have hfz28_12:=blk_frozen BK529.out 12;have hfz28_13:=blk_frozen BK529.out 13;have hfz28_14:=blk_frozen BK529.out 14;have hfz28_15:=blk_frozen BK529.out 15)|((with_reducible refine gate_callee (f:=29) rfl ?_);refine gL (some 43) Try.func29 #[.agg #[.int .i64 a0_12,.int .i64 a0_13,.int .i64 a0_14,.slice A0_15 l0_15.length c0_15],.agg #[.int .i64 a1_12,.int .i64 a1_13,.int .i64 a1_14,.slice A1_15 l1_15.length c1_15]] ?_;(with_reducible refine (laws_eqPacked.calls k a0_12 a0_13 a0_14 _ _ l0_15 a1_12 a1_13 a1_14 _ _ l1_15 true _ ?side1 ?side2 ?side3 ?side4 A13.out).mono ?_);(case side1=>exact kC (Kd.C_below HR0_15.out HB.out));(case side2=>exact HC0_15.out);(case side3=>exact kC (Kd.C_below HR1_15.out HB.out));(case side4=>exact HC1_15.out);rintro e w29 ⟨rfl,hb⟩;refine⟨_,rfl,?_⟩;replace BK528:=mk0 (kK BK528.out hb);replace BK529:=mk0 (kK BK529.out hb);replace HB:=mk0 (kS HB.out hb);(try clear hb)))
 go_ret
 exact⟨eR,kB HB.out⟩
/-! ### laws_eqByteS: function 8 -/
def laws_eqByteS.l0 : Nat → List Int → List Int → Int → Option (Bool)
 | 0, _, _, _ => none
 | k + 1, x0, x1, x5 => if x5 < (x0.length : Int) then (if 0 ≤ x5 then (if x5 < (x1.length : Int) then (if (rd x0 x5) = (rd x1 x5) then (laws_eqByteS.l0 k x0 x1 (wrap64 (x5 + 1))) else (none)) else (none)) else (none)) else (some true)
def laws_eqByteS.f (k : Nat) (l0 : List Int) (l1 : List Int) : Option (Bool) := if (l0.length : Int) = (l1.length : Int) then (laws_eqByteS.l0 k l0 l1 0) else (none)
set_option maxHeartbeats 8000000 in
set_option maxRecDepth 100000 in
theorem laws_eqByteS.calls (k : Nat) (A0 : Option Addr) (c0 : Nat) (l0 : List Int) (A1 : Option Addr) (c1 : Nat) (l1 : List Int) (r : Bool) (w : World) (hr0 : Kd.C (Kd.int .u8) w A0 l0.length l0) (hc0 : l0.length ≤ c0) (hr1 : Kd.C (Kd.int .u8) w A1 l1.length l1) (hc1 : l1.length ≤ c1) (h : laws_eqByteS.f k l0 l1 = some r) :
  Calls Try.prog 8 #[.slice A0 l0.length c0, .slice A1 l1.length c1] w fun e w' => e = .returned (.bool r) ∧ Drawn0 w w' := by
 have HR0:=mk0 hr0
 have HC0:=mk0 hc0
 clear hr0 hc0
 have HR1:=mk0 hr1
 have HC1:=mk0 hc1
 clear hr1 hc1
 have H:(if (l0.length:Int) = (l1.length:Int) then (laws_eqByteS.l0 k l0 l1 0) else (none)) = some r:=h
 clear h
 by_cases c3:(l0.length:Int) = (l1.length:Int)
 ·rw [if_pos c3] at H
  have c3b0:((l0.length:Int) == (l1.length:Int)) = true:=beq_iff_eq.mpr c3
  have c3b1:((l0.length:Int) != (l1.length:Int)) = false:=bne_eq_false_iff_eq.mpr c3
  have c3b2:(l0.length == l1.length) = true:=by first|simpa using c3|(simp at c3 ⊢;omega)
  clear c3
  have H':=mk0 H
  clear H
  go_enter Try.func8,Try.ntmps8
  go_wp2
  repeat (go_quiet (fail);try go_wp2)
  go_loopg [5] k (fun kq v5 w'=>∃ (x5_1:Int),v5 = .int .i64 x5_1 ∧ Aside0 (laws_eqByteS.l0 kq l0 l1 x5_1 = some r) ∧ Aside0 (kq ≤ k) ∧ Drawn0 w w')
  case atStart=>exact⟨(0),eS,H',⟨Nat.le_refl _⟩,by repeat (first|exact Drawn0.refl _|apply Drawn0.step)⟩
  case round =>
   clear H'
   try clear c1
   try clear p2
   try clear c3
   try clear c3b0
   try clear c3b1
   try clear c3b2
   obtain⟨x5_1,rfl,HA,HK1,⟨m1,rfl⟩⟩:=hrel
   cases gk with
   | zero=>exact absurd HA.out (by simp [laws_eqByteS.l0])
   | succ k1 =>
    have H:=HA.out
    clear HA
    simp only [laws_eqByteS.l0] at H
    by_cases c4:x5_1 < (l0.length:Int)
    ·rw [if_pos c4] at H
     have c4b0:decide (x5_1 < (l0.length:Int)) = true:=decide_eq_true c4
     clear c4
     by_cases c5:0 ≤ x5_1
     ·rw [if_pos c5] at H
      have c5b0:decide (0 ≤ x5_1) = true:=decide_eq_true c5
      clear c5
      by_cases c6:x5_1 < (l1.length:Int)
      ·rw [if_pos c6] at H
       have c6b0:decide (x5_1 < (l1.length:Int)) = true:=decide_eq_true c6
       clear c6
       by_cases c7:(rd l0 x5_1) = (rd l1 x5_1)
       ·rw [if_pos c7] at H
        have c7b0:((rd l0 x5_1) == (rd l1 x5_1)) = true:=beq_iff_eq.mpr c7
        have c7b1:((rd l0 x5_1) != (rd l1 x5_1)) = false:=bne_eq_false_iff_eq.mpr c7
        clear c7
        have H':=mk0 H
        clear H
        have p535:0 ≤ (x5_1:Int):=oD
        have q535:x5_1 < (l0.length:Int):=oD
        obtain⟨ad535,e535,hx535_0⟩:=Kd.at_int HR0.out x5_1 p535 q535
        cases e535
        replace p535:=eq_true p535
        replace q535:=eq_true q535
        have p536:0 ≤ (x5_1:Int):=oD
        have q536:x5_1 < (l1.length:Int):=oD
        obtain⟨ad536,e536,hx536_0⟩:=Kd.at_int HR1.out x5_1 p536 q536
        cases e536
        replace p536:=eq_true p536
        replace q536:=eq_true q536
        go_wp2
        repeat (go_quiet (fail);try go_wp2)
        go_roundg k1
        case measure=>have:=HK1.out;omega
        case rel=>exact⟨(wrap64 (x5_1 + 1)),eS,H',⟨by have:=HK1.out;omega⟩,by repeat (first|exact Drawn0.refl _|apply Drawn0.step)⟩
       ·rw [if_neg c7] at H
        exact nn H
      ·rw [if_neg c6] at H
       exact nn H
     ·rw [if_neg c5] at H
      exact nn H
    ·rw [if_neg c4] at H
     have c4b0:decide (x5_1 < (l0.length:Int)) = false:=decide_eq_false c4
     clear c4
     obtain rfl:=Option.some.inj H
     go_wp2
     repeat (go_quiet (fail);try go_wp2)
     go_ret
     exact⟨by first|rfl|(simp;done)|(simp [*];done),by repeat (first|exact Drawn0.refl _|apply Drawn0.step)⟩
 ·rw [if_neg c3] at H
  exact nn H
/-! ### laws_markByteS: function 9 -/
def laws_markByteS.l0 : Nat → List Int → Int → Int → Option (Int × List Int)
 | 0, _, _, _ => none
 | k + 1, x0, x1, x5 => if x5 < (x0.length : Int) then (if 0 ≤ x5 then (laws_markByteS.l0 k (x0.set (x5 : Int).toNat ((x1) % 256)) (wrap64 (x1 + 1)) (wrap64 (x5 + 1))) else (none)) else (some (x1, x0))
def laws_markByteS.f (k : Nat) (l0 : List Int) (a1 : Int) : Option (Int × List Int) := laws_markByteS.l0 k l0 a1 0
set_option maxHeartbeats 8000000 in
set_option maxRecDepth 100000 in
theorem laws_markByteS.calls (k : Nat) (P0_ : Nat → Prop) (u9000_ : Value) (l0 : List Int) (a1 : Int) (r1 : Int) (r2 : List Int) (w0 w : World) (hB : Below w0.heap.size w0 w) (ho0 : Kd.R (Kd.int .u8) 5 w w0.heap.size P0_ u9000_ l0) (h : laws_markByteS.f k l0 a1 = some (r1, r2)) :
  Calls Try.prog 9 #[u9000_, .int .i64 a1] w fun e w' => e = .returned (.int .i64 r1) ∧ Kd.R (Kd.int .u8) 5 w' w0.heap.size (fun k_ => (P0_ k_ ∨ w.heap.size ≤ k_)) u9000_ r2 ∧ Below w0.heap.size w0 w' ∧ Kept w w' (fun k_ => P0_ k_) := by
 have HO0:=mk0 (show Kd.R (Kd.int .u8) 5 w w0.heap.size (fun k_=>(P0_ k_ ∨ w.heap.size ≤ k_)) u9000_ l0 from Kd.R_mono ho0 (fun k_ hk=>(.inl hk)))
 have HK:=mk0 (Kept.refl w (fun k_=>P0_ k_))
 have HW0:=mk0 hB.size
 have HB:=mk0 hB
 clear hB
 have H:(laws_markByteS.l0 k l0 a1 0) = some (r1,r2):=h
 clear h
 have H':=mk0 H
 clear H
 go_enter Try.func9,Try.ntmps9
 go_wp2
 go_loopg [1,5] k (fun kq v1 v5 w'=>∃ (x0_1:List Int) (x1_1:Int) (x5_1:Int),v1 = .int .i64 x1_1 ∧ v5 = .int .i64 x5_1 ∧ Aside0 (laws_markByteS.l0 kq x0_1 x1_1 x5_1 = some (r1,r2)) ∧ Aside0 (kq ≤ k) ∧ Aside0 (Kd.R (Kd.int .u8) 5 w' w0.heap.size (fun k_=>(P0_ k_ ∨ w.heap.size ≤ k_)) u9000_ x0_1) ∧ Aside0 (Kept w w' (fun k_=>P0_ k_)) ∧ Aside0 (Below w0.heap.size w0 w'))
 case atStart=>exact⟨(l0),(a1),(0),eS,eS,H',⟨Nat.le_refl _⟩,⟨rR HO0.out⟩,⟨by repeat (first|(with_reducible first|exact HK.out|apply Kept.alloc|apply Kept.drewN|apply Kept.drew)|exact HK.out)⟩,⟨kB HB.out⟩⟩
 case round =>
  clear H'
  try clear p2
  obtain⟨x0_1,x1_1,x5_1,rfl,rfl,HA,HK1,HO_0,HK,HB⟩:=hrel
  cases gk with
  | zero=>exact absurd HA.out (by simp [laws_markByteS.l0])
  | succ k1 =>
   have H:=HA.out
   clear HA
   simp only [laws_markByteS.l0] at H
   by_cases c3:x5_1 < (x0_1.length:Int)
   ·rw [if_pos c3] at H
    have c3b0:decide (x5_1 < (x0_1.length:Int)) = true:=decide_eq_true c3
    clear c3
    by_cases c4:0 ≤ x5_1
    ·rw [if_pos c4] at H
     have c4b0:decide (0 ≤ x5_1) = true:=decide_eq_true c4
     clear c4
     obtain⟨y537,hy537⟩:∃ y_:List Int,y_ = (x0_1.set (x5_1:Int).toNat ((x1_1) % 256)):=⟨_,rfl⟩
     first|(with_reducible replace H:=yB hy537 H)|rw [← hy537] at H|skip
     have Ny537:=mk0 hy537
     clear hy537
     have H':=mk0 H
     clear H
     obtain⟨Ao6,co6,eo6⟩:=Kd.R_slice HO_0.out
     subst eo6
     have p5:0 ≤ (x5_1:Int):=oD
     have q5:(x5_1:Int) < ((x0_1.length:Int):Int):=oD
     obtain⟨go5,co5,eo5,gb5,gl5,cl5,HG5⟩:=Kd.R_form HO_0.out (by omega)
     (first|cases eo5|(injection eo5 with ea_ en_ ec_;(first|subst ea_|(injection ea_ with ea_;subst ea_));subst ec_;clear en_))
     have GB5:=mk0 gb5
     have GG5:=mk0 HG5
     clear gb5 gl5 HG5
     have HMgo5:=mk0 (show (P0_ go5 ∨ w.heap.size ≤ go5) from (HO_0.out.1 _ rfl))
     obtain⟨hx5_0,hf5_0⟩:=Kd.R_celln 0 HO_0.out (x5_1:Int) p5 q5
     replace p5:=eq_true p5
     replace q5:=eq_true q5
     have HP7:=Kd.R_putg HO_0.out (x5_1:Int) ((x1_1) % 256)
     go_wp2_with (first|((with_reducible refine gate_store (t:=5) (p:=16) rfl ?_);refine store_event (t:=5) (p:=16) (v:=?vo_w8) (w1:=(wr.setCell ⟨go5,(x5_1:Int).toNat,none⟩ (.int .u8 ((x1_1) % 256)))) ?hg ?ho ?hn ?hr ?_;(case ho=>rfl);(case hg=>rfl);(case hn=>rfl);(case hr=>first|(go_simp;done)|(go_simp;rfl));intro w8 hw;have hg:wr.grownBy w8 (some go5):=(by rw [hw];exact HP7.2);have hp_:Kd.R (Kd.int .u8) 5 w8 w0.heap.size (fun k_=>(P0_ k_ ∨ w.heap.size ≤ k_)) (.slice (some ⟨go5,0,none⟩) x0_1.length co6) y537:=(by rw [hw,Ny537.out];exact HP7.1);clear HP7;replace HB:=mk0 ((by rw [hw];exact sZ (HB.out) GB5.out:Below w0.heap.size w0 w8));replace HK:=mk0 (Kept.of_grown (S:=(fun k_=>P0_ k_)) hg (by repeat (first|(with_reducible first|exact HK.out|apply Kept.alloc|apply Kept.drewN|apply Kept.drew)|exact HK.out)) (fun k_ e_=>(HO_0.out.1 k_ e_)));replace HO_0:=mk0 (hp_);clear hg hw hp_))
     go_roundg k1
     case measure=>have:=HK1.out;omega
     case rel=>exact⟨(y537),(wrap64 (x1_1 + 1)),(wrap64 (x5_1 + 1)),eS,eS,H',⟨by have:=HK1.out;omega⟩,⟨rR HO_0.out⟩,⟨by repeat (first|(with_reducible first|exact HK.out|apply Kept.alloc|apply Kept.drewN|apply Kept.drew)|exact HK.out)⟩,⟨kB HB.out⟩⟩
    ·rw [if_neg c4] at H
     exact nn H
   ·rw [if_neg c3] at H
    have c3b0:decide (x5_1 < (x0_1.length:Int)) = false:=decide_eq_false c3
    clear c3
    simp only [Option.some.injEq,Prod.mk.injEq] at H
    obtain⟨rfl,rfl⟩:=H
    obtain⟨Ao9,co9,eo9⟩:=Kd.R_slice HO_0.out
    subst eo9
    go_wp2
    go_ret
    exact⟨eR,rR HO_0.out,kB HB.out,by repeat (first|(with_reducible first|exact HK.out|apply Kept.alloc|apply Kept.drewN|apply Kept.drew)|exact HK.out)⟩
/-! ### laws_markIntS: function 31 -/
def laws_markIntS.l0 : Nat → List Int → Int → Int → Option (Int × List Int)
 | 0, _, _, _ => none
 | k + 1, x0, x1, x5 => if x5 < (x0.length : Int) then (if 0 ≤ x5 then (laws_markIntS.l0 k (x0.set (x5 : Int).toNat x1) (wrap64 (x1 + 1)) (wrap64 (x5 + 1))) else (none)) else (some (x1, x0))
def laws_markIntS.f (k : Nat) (l0 : List Int) (a1 : Int) : Option (Int × List Int) := laws_markIntS.l0 k l0 a1 0
set_option maxHeartbeats 8000000 in
set_option maxRecDepth 100000 in
theorem laws_markIntS.calls (k : Nat) (P0_ : Nat → Prop) (u9000_ : Value) (l0 : List Int) (a1 : Int) (r1 : Int) (r2 : List Int) (w0 w : World) (hB : Below w0.heap.size w0 w) (ho0 : Kd.R (Kd.int .i64) 3 w w0.heap.size P0_ u9000_ l0) (h : laws_markIntS.f k l0 a1 = some (r1, r2)) :
  Calls Try.prog 31 #[u9000_, .int .i64 a1] w fun e w' => e = .returned (.int .i64 r1) ∧ Kd.R (Kd.int .i64) 3 w' w0.heap.size (fun k_ => (P0_ k_ ∨ w.heap.size ≤ k_)) u9000_ r2 ∧ Below w0.heap.size w0 w' ∧ Kept w w' (fun k_ => P0_ k_) := by
 have HO0:=mk0 (show Kd.R (Kd.int .i64) 3 w w0.heap.size (fun k_=>(P0_ k_ ∨ w.heap.size ≤ k_)) u9000_ l0 from Kd.R_mono ho0 (fun k_ hk=>(.inl hk)))
 have HK:=mk0 (Kept.refl w (fun k_=>P0_ k_))
 have HW0:=mk0 hB.size
 have HB:=mk0 hB
 clear hB
 have H:(laws_markIntS.l0 k l0 a1 0) = some (r1,r2):=h
 clear h
 have H':=mk0 H
 clear H
 go_enter Try.func31,Try.ntmps31
 go_wp2
 go_loopg [1,5] k (fun kq v1 v5 w'=>∃ (x0_1:List Int) (x1_1:Int) (x5_1:Int),v1 = .int .i64 x1_1 ∧ v5 = .int .i64 x5_1 ∧ Aside0 (laws_markIntS.l0 kq x0_1 x1_1 x5_1 = some (r1,r2)) ∧ Aside0 (kq ≤ k) ∧ Aside0 (Kd.R (Kd.int .i64) 3 w' w0.heap.size (fun k_=>(P0_ k_ ∨ w.heap.size ≤ k_)) u9000_ x0_1) ∧ Aside0 (Kept w w' (fun k_=>P0_ k_)) ∧ Aside0 (Below w0.heap.size w0 w'))
 case atStart=>exact⟨(l0),(a1),(0),eS,eS,H',⟨Nat.le_refl _⟩,⟨rR HO0.out⟩,⟨by repeat (first|(with_reducible first|exact HK.out|apply Kept.alloc|apply Kept.drewN|apply Kept.drew)|exact HK.out)⟩,⟨kB HB.out⟩⟩
 case round =>
  clear H'
  try clear p2
  obtain⟨x0_1,x1_1,x5_1,rfl,rfl,HA,HK1,HO_0,HK,HB⟩:=hrel
  cases gk with
  | zero=>exact absurd HA.out (by simp [laws_markIntS.l0])
  | succ k1 =>
   have H:=HA.out
   clear HA
   simp only [laws_markIntS.l0] at H
   by_cases c3:x5_1 < (x0_1.length:Int)
   ·rw [if_pos c3] at H
    have c3b0:decide (x5_1 < (x0_1.length:Int)) = true:=decide_eq_true c3
    clear c3
    by_cases c4:0 ≤ x5_1
    ·rw [if_pos c4] at H
     have c4b0:decide (0 ≤ x5_1) = true:=decide_eq_true c4
     clear c4
     obtain⟨y538,hy538⟩:∃ y_:List Int,y_ = (x0_1.set (x5_1:Int).toNat x1_1):=⟨_,rfl⟩
     first|(with_reducible replace H:=yB hy538 H)|rw [← hy538] at H|skip
     have Ny538:=mk0 hy538
     clear hy538
     have H':=mk0 H
     clear H
     obtain⟨Ao6,co6,eo6⟩:=Kd.R_slice HO_0.out
     subst eo6
     have p5:0 ≤ (x5_1:Int):=oD
     have q5:(x5_1:Int) < ((x0_1.length:Int):Int):=oD
     obtain⟨go5,co5,eo5,gb5,gl5,cl5,HG5⟩:=Kd.R_form HO_0.out (by omega)
     (first|cases eo5|(injection eo5 with ea_ en_ ec_;(first|subst ea_|(injection ea_ with ea_;subst ea_));subst ec_;clear en_))
     have GB5:=mk0 gb5
     have GG5:=mk0 HG5
     clear gb5 gl5 HG5
     have HMgo5:=mk0 (show (P0_ go5 ∨ w.heap.size ≤ go5) from (HO_0.out.1 _ rfl))
     obtain⟨hx5_0,hf5_0⟩:=Kd.R_celln 0 HO_0.out (x5_1:Int) p5 q5
     replace p5:=eq_true p5
     replace q5:=eq_true q5
     have HP7:=Kd.R_putg HO_0.out (x5_1:Int) x1_1
     go_wp2_with (first|((with_reducible refine gate_store (t:=3) (p:=15) rfl ?_);refine store_event (t:=3) (p:=15) (v:=?vo_w8) (w1:=(wr.setCell ⟨go5,(x5_1:Int).toNat,none⟩ (.int .i64 x1_1))) ?hg ?ho ?hn ?hr ?_;(case ho=>rfl);(case hg=>rfl);(case hn=>rfl);(case hr=>first|(go_simp;done)|(go_simp;rfl));intro w8 hw;have hg:wr.grownBy w8 (some go5):=(by rw [hw];exact HP7.2);have hp_:Kd.R (Kd.int .i64) 3 w8 w0.heap.size (fun k_=>(P0_ k_ ∨ w.heap.size ≤ k_)) (.slice (some ⟨go5,0,none⟩) x0_1.length co6) y538:=(by rw [hw,Ny538.out];exact HP7.1);clear HP7;replace HB:=mk0 ((by rw [hw];exact sZ (HB.out) GB5.out:Below w0.heap.size w0 w8));replace HK:=mk0 (Kept.of_grown (S:=(fun k_=>P0_ k_)) hg (by repeat (first|(with_reducible first|exact HK.out|apply Kept.alloc|apply Kept.drewN|apply Kept.drew)|exact HK.out)) (fun k_ e_=>(HO_0.out.1 k_ e_)));replace HO_0:=mk0 (hp_);clear hg hw hp_))
     go_roundg k1
     case measure=>have:=HK1.out;omega
     case rel=>exact⟨(y538),(wrap64 (x1_1 + 1)),(wrap64 (x5_1 + 1)),eS,eS,H',⟨by have:=HK1.out;omega⟩,⟨rR HO_0.out⟩,⟨by repeat (first|(with_reducible first|exact HK.out|apply Kept.alloc|apply Kept.drewN|apply Kept.drew)|exact HK.out)⟩,⟨kB HB.out⟩⟩
    ·rw [if_neg c4] at H
     exact nn H
   ·rw [if_neg c3] at H
    have c3b0:decide (x5_1 < (x0_1.length:Int)) = false:=decide_eq_false c3
    clear c3
    simp only [Option.some.injEq,Prod.mk.injEq] at H
    obtain⟨rfl,rfl⟩:=H
    obtain⟨Ao9,co9,eo9⟩:=Kd.R_slice HO_0.out
    subst eo9
    go_wp2
    go_ret
    exact⟨eR,rR HO_0.out,kB HB.out,by repeat (first|(with_reducible first|exact HK.out|apply Kept.alloc|apply Kept.drewN|apply Kept.drew)|exact HK.out)⟩
/-! ### laws_markUint64S: function 54 -/
def laws_markUint64S.l0 : Nat → List Int → Int → Int → Option (Int × List Int)
 | 0, _, _, _ => none
 | k + 1, x0, x1, x5 => if x5 < (x0.length : Int) then (if 0 ≤ x5 then (laws_markUint64S.l0 k (x0.set (x5 : Int).toNat (IntKind.u64.wrap (x1))) (wrap64 (x1 + 1)) (wrap64 (x5 + 1))) else (none)) else (some (x1, x0))
def laws_markUint64S.f (k : Nat) (l0 : List Int) (a1 : Int) : Option (Int × List Int) := laws_markUint64S.l0 k l0 a1 0
set_option maxHeartbeats 8000000 in
set_option maxRecDepth 100000 in
theorem laws_markUint64S.calls (k : Nat) (P0_ : Nat → Prop) (u9000_ : Value) (l0 : List Int) (a1 : Int) (r1 : Int) (r2 : List Int) (w0 w : World) (hB : Below w0.heap.size w0 w) (ho0 : Kd.R (Kd.int .u64) 67 w w0.heap.size P0_ u9000_ l0) (h : laws_markUint64S.f k l0 a1 = some (r1, r2)) :
  Calls Try.prog 54 #[u9000_, .int .i64 a1] w fun e w' => e = .returned (.int .i64 r1) ∧ Kd.R (Kd.int .u64) 67 w' w0.heap.size (fun k_ => (P0_ k_ ∨ w.heap.size ≤ k_)) u9000_ r2 ∧ Below w0.heap.size w0 w' ∧ Kept w w' (fun k_ => P0_ k_) := by
 have HO0:=mk0 (show Kd.R (Kd.int .u64) 67 w w0.heap.size (fun k_=>(P0_ k_ ∨ w.heap.size ≤ k_)) u9000_ l0 from Kd.R_mono ho0 (fun k_ hk=>(.inl hk)))
 have HK:=mk0 (Kept.refl w (fun k_=>P0_ k_))
 have HW0:=mk0 hB.size
 have HB:=mk0 hB
 clear hB
 have H:(laws_markUint64S.l0 k l0 a1 0) = some (r1,r2):=h
 clear h
 have H':=mk0 H
 clear H
 go_enter Try.func54,Try.ntmps54
 go_wp2
 go_loopg [1,5] k (fun kq v1 v5 w'=>∃ (x0_1:List Int) (x1_1:Int) (x5_1:Int),v1 = .int .i64 x1_1 ∧ v5 = .int .i64 x5_1 ∧ Aside0 (laws_markUint64S.l0 kq x0_1 x1_1 x5_1 = some (r1,r2)) ∧ Aside0 (kq ≤ k) ∧ Aside0 (Kd.R (Kd.int .u64) 67 w' w0.heap.size (fun k_=>(P0_ k_ ∨ w.heap.size ≤ k_)) u9000_ x0_1) ∧ Aside0 (Kept w w' (fun k_=>P0_ k_)) ∧ Aside0 (Below w0.heap.size w0 w'))
 case atStart=>exact⟨(l0),(a1),(0),eS,eS,H',⟨Nat.le_refl _⟩,⟨rR HO0.out⟩,⟨by repeat (first|(with_reducible first|exact HK.out|apply Kept.alloc|apply Kept.drewN|apply Kept.drew)|exact HK.out)⟩,⟨kB HB.out⟩⟩
 case round =>
  clear H'
  try clear p2
  obtain⟨x0_1,x1_1,x5_1,rfl,rfl,HA,HK1,HO_0,HK,HB⟩:=hrel
  cases gk with
  | zero=>exact absurd HA.out (by simp [laws_markUint64S.l0])
  | succ k1 =>
   have H:=HA.out
   clear HA
   simp only [laws_markUint64S.l0] at H
   by_cases c3:x5_1 < (x0_1.length:Int)
   ·rw [if_pos c3] at H
    have c3b0:decide (x5_1 < (x0_1.length:Int)) = true:=decide_eq_true c3
    clear c3
    by_cases c4:0 ≤ x5_1
    ·rw [if_pos c4] at H
     have c4b0:decide (0 ≤ x5_1) = true:=decide_eq_true c4
     clear c4
     obtain⟨y539,hy539⟩:∃ y_:List Int,y_ = (x0_1.set (x5_1:Int).toNat (IntKind.u64.wrap (x1_1))):=⟨_,rfl⟩
     first|(with_reducible replace H:=yB hy539 H)|rw [← hy539] at H|skip
     have Ny539:=mk0 hy539
     clear hy539
     have H':=mk0 H
     clear H
     obtain⟨Ao6,co6,eo6⟩:=Kd.R_slice HO_0.out
     subst eo6
     have p5:0 ≤ (x5_1:Int):=oD
     have q5:(x5_1:Int) < ((x0_1.length:Int):Int):=oD
     obtain⟨go5,co5,eo5,gb5,gl5,cl5,HG5⟩:=Kd.R_form HO_0.out (by omega)
     (first|cases eo5|(injection eo5 with ea_ en_ ec_;(first|subst ea_|(injection ea_ with ea_;subst ea_));subst ec_;clear en_))
     have GB5:=mk0 gb5
     have GG5:=mk0 HG5
     clear gb5 gl5 HG5
     have HMgo5:=mk0 (show (P0_ go5 ∨ w.heap.size ≤ go5) from (HO_0.out.1 _ rfl))
     obtain⟨hx5_0,hf5_0⟩:=Kd.R_celln 0 HO_0.out (x5_1:Int) p5 q5
     replace p5:=eq_true p5
     replace q5:=eq_true q5
     have HP7:=Kd.R_putg HO_0.out (x5_1:Int) (IntKind.u64.wrap (x1_1))
     go_wp2_with (first|((with_reducible refine gate_store (t:=67) (p:=16) rfl ?_);refine store_event (t:=67) (p:=16) (v:=?vo_w8) (w1:=(wr.setCell ⟨go5,(x5_1:Int).toNat,none⟩ (.int .u64 (IntKind.u64.wrap (x1_1))))) ?hg ?ho ?hn ?hr ?_;(case ho=>rfl);(case hg=>rfl);(case hn=>rfl);(case hr=>first|(go_simp;done)|(go_simp;rfl));intro w8 hw;have hg:wr.grownBy w8 (some go5):=(by rw [hw];exact HP7.2);have hp_:Kd.R (Kd.int .u64) 67 w8 w0.heap.size (fun k_=>(P0_ k_ ∨ w.heap.size ≤ k_)) (.slice (some ⟨go5,0,none⟩) x0_1.length co6) y539:=(by rw [hw,Ny539.out];exact HP7.1);clear HP7;replace HB:=mk0 ((by rw [hw];exact sZ (HB.out) GB5.out:Below w0.heap.size w0 w8));replace HK:=mk0 (Kept.of_grown (S:=(fun k_=>P0_ k_)) hg (by repeat (first|(with_reducible first|exact HK.out|apply Kept.alloc|apply Kept.drewN|apply Kept.drew)|exact HK.out)) (fun k_ e_=>(HO_0.out.1 k_ e_)));replace HO_0:=mk0 (hp_);clear hg hw hp_))
     go_roundg k1
     case measure=>have:=HK1.out;omega
     case rel=>exact⟨(y539),(wrap64 (x1_1 + 1)),(wrap64 (x5_1 + 1)),eS,eS,H',⟨by have:=HK1.out;omega⟩,⟨rR HO_0.out⟩,⟨by repeat (first|(with_reducible first|exact HK.out|apply Kept.alloc|apply Kept.drewN|apply Kept.drew)|exact HK.out)⟩,⟨kB HB.out⟩⟩
    ·rw [if_neg c4] at H
     exact nn H
   ·rw [if_neg c3] at H
    have c3b0:decide (x5_1 < (x0_1.length:Int)) = false:=decide_eq_false c3
    clear c3
    simp only [Option.some.injEq,Prod.mk.injEq] at H
    obtain⟨rfl,rfl⟩:=H
    obtain⟨Ao9,co9,eo9⟩:=Kd.R_slice HO_0.out
    subst eo9
    go_wp2
    go_ret
    exact⟨eR,rR HO_0.out,kB HB.out,by repeat (first|(with_reducible first|exact HK.out|apply Kept.alloc|apply Kept.drewN|apply Kept.drew)|exact HK.out)⟩
/-! ### laws_markBitsS: function 53 (by hand) -/
def laws_markBitsS.l0 : Nat → List S29 → Int → Int → Option (Int × List S29)
 | 0, _, _, _ => none
 | k + 1, x0, x1, x5 => if x5 < (x0.length : Int) then (if 0 ≤ x5 then ((laws_markUint64S.f k (x0.getD x5.toNat z29).f1 (wrap64 (x1 + 1))).bind fun t => laws_markBitsS.l0 k (x0.set x5.toNat (⟨x1, t.2⟩ : S29)) t.1 (wrap64 (x5 + 1))) else none) else some (x1, x0)
def laws_markBitsS.f (k : Nat) (l0 : List S29) (a1 : Int) : Option (Int × List S29) := laws_markBitsS.l0 k l0 a1 0
set_option maxHeartbeats 8000000 in
set_option maxRecDepth 100000 in
theorem laws_markBitsS.calls (k : Nat) (P0_ : Nat → Prop) (u : Value) (l0 : List S29) (a1 : Int) (r1 : Int) (r2 : List S29) (w0 w : World) (hB : Below w0.heap.size w0 w) (ho0 : Kd.S k29 29 w w0.heap.size P0_ u l0) (h : laws_markBitsS.f k l0 a1 = some (r1, r2)) :
  Calls Try.prog 53 #[u, .int .i64 a1] w fun e w' => e = .returned (.int .i64 r1) ∧ Kd.S k29 29 w' w0.heap.size (fun k_ => P0_ k_ ∨ w.heap.size ≤ k_) u r2 ∧ Below w0.heap.size w0 w' ∧ Kept w w' (fun k_ => P0_ k_) := by
 have HO_0 := Aside0.mk (Kd.S_mono (ok' := fun k_ => P0_ k_ ∨ w.heap.size ≤ k_) ho0 (fun k_ hk => .inl hk))
 have HK := Aside0.mk (Kept.refl w (fun k_ => P0_ k_))
 have HB := Aside0.mk hB
 clear hB ho0
 have H' := Aside0.mk (show laws_markBitsS.l0 k l0 a1 0 = some (r1, r2) from h)
 clear h
 go_enter Try.func53, Try.ntmps53
 go_wp2
 go_loopg [1,5] k (fun kq v1 v5 w'=>∃ (x0_1:List S29) (x1_1:Int) (x5_1:Int),v1 = .int .i64 x1_1 ∧ v5 = .int .i64 x5_1 ∧ Aside0 (laws_markBitsS.l0 kq x0_1 x1_1 x5_1 = some (r1, r2)) ∧ Aside0 (kq ≤ k) ∧ Aside0 (Kd.S k29 29 w' w0.heap.size (fun k_=>(P0_ k_ ∨ w.heap.size ≤ k_)) u x0_1) ∧ Aside0 (Kept w w' (fun k_=>P0_ k_)) ∧ Aside0 (Below w0.heap.size w0 w'))
 case atStart => exact ⟨l0, a1, 0, rfl, rfl, H', ⟨Nat.le_refl _⟩, ⟨by (with_reducible repeat (first|apply Kd.S_alloc|apply Kd.S_drewN|apply Kd.S_drew)); exact HO_0.out⟩, ⟨by repeat (first|(with_reducible first|exact HK.out|apply Kept.alloc|apply Kept.drewN|apply Kept.drew)|exact HK.out)⟩, ⟨by repeat (first|(with_reducible first|exact HB.out|apply below_alloc|apply pw_below_drewN|apply below_drew1)|exact HB.out)⟩⟩
 case round =>
  clear H' HO_0 HK HB
  obtain ⟨x0_1, x1_1, x5_1, rfl, rfl, HA, HK1, HO_0, HK, HB⟩ := hrel
  cases gk with
  | zero => exact absurd HA.out (by simp [laws_markBitsS.l0])
  | succ k1 =>
   have H := HA.out
   clear HA
   simp only [laws_markBitsS.l0] at H
   by_cases c3 : x5_1 < (x0_1.length : Int)
   rotate_left
   · rw [if_neg c3] at H
     have c3b0 : decide (x5_1 < (x0_1.length:Int)) = false := decide_eq_false c3
     clear c3
     obtain ⟨rfl, rfl⟩ := Prod.mk.inj (Option.some.inj H)
     obtain ⟨Ao, co, eo⟩ := Kd.S_slice HO_0.out
     subst eo
     go_wp2
     go_ret
     exact ⟨rfl, by (with_reducible repeat (first|apply Kd.S_alloc|apply Kd.S_drewN|apply Kd.S_drew)); exact HO_0.out, by repeat (first|(with_reducible first|exact HB.out|apply below_alloc|apply pw_below_drewN|apply below_drew1)|exact HB.out), by repeat (first|(with_reducible first|exact HK.out|apply Kept.alloc|apply Kept.drewN|apply Kept.drew)|exact HK.out)⟩
   rw [if_pos c3] at H
   by_cases c4 : 0 ≤ x5_1
   rotate_left
   · rw [if_neg c4] at H
     exact nn H
   rw [if_pos c4] at H
   obtain ⟨⟨t1, t2⟩, A1, H⟩ := Option.bind_eq_some_iff.mp H
   have AM := Aside0.mk A1
   have H' := Aside0.mk (show laws_markBitsS.l0 k1 (x0_1.set x5_1.toNat (⟨x1_1, t2⟩ : S29)) t1 (wrap64 (x5_1 + 1)) = some (r1, r2) from H)
   clear A1 H
   have c3b0 : decide (x5_1 < (x0_1.length:Int)) = true := decide_eq_true c3
   have c4b0 : decide (0 ≤ x5_1) = true := decide_eq_true c4
   obtain ⟨Ao, co, eo⟩ := Kd.S_slice HO_0.out
   subst eo
   obtain ⟨go5, co5, eo5, gb5, gl5, cl5, HG5⟩ := Kd.S_form HO_0.out (by omega)
   (first|cases eo5|(injection eo5 with ea_ en_ ec_;(first|subst ea_|(injection ea_ with ea_;subst ea_));subst ec_;clear en_))
   have GB5 := Aside0.mk gb5
   have GG5 := Aside0.mk HG5
   clear gb5 gl5 HG5
   obtain ⟨oki5, ce5, hcl5, hM5, hcc5, hfr5, hoki5, hH5⟩ := Kd.S_elem HO_0.out z29 x5_1 c4 c3
   obtain ⟨ve5, rfl, ge5⟩ := k29_openM hM5
   have hx5_0 := hcc5 0 _ rfl
   (try simp only [show (k29).sz = 2 from rfl,Nat.mul_one,Nat.add_zero] at hx5_0)
   have hx5_1 := hcc5 1 _ rfl
   (try simp only [show (k29).sz = 2 from rfl,Nat.mul_one,Nat.add_zero] at hx5_1)
   have hf5_0 := hfr5 0
   (try simp only [show (k29).sz = 2 from rfl,Nat.mul_one,Nat.add_zero] at hf5_0)
   have hf5_1 := hfr5 1
   (try simp only [show (k29).sz = 2 from rfl,Nat.mul_one,Nat.add_zero] at hf5_1)
   have HP5 := Kd.S_seg0 hH5 c4 c3 (seg := [.int .i64 x1_1]) (j := 0) (show 1 ≤ 2 from by decide) (x' := (⟨x1_1, (x0_1.getD x5_1.toNat z29).f1⟩ : S29)) (k29_mkM _ _ _ (⟨x1_1, (x0_1.getD x5_1.toNat z29).f1⟩ : S29) ge5) (fun _ hk => hk)
   have c3' := Aside0.mk c3
   have c4' := Aside0.mk c4
   have p5 := eq_true c4
   have q5 := eq_true c3
   clear hcl5 hcc5 hfr5 hM5 hoki5 hH5 ge5 c3 c4
   go_wp2_with (first
     | ((with_reducible refine gate_store (t:=3) (p:=16) rfl ?_);refine store_event (t:=3) (p:=16) (v:=?vo_w8) (w1:=(wr.setCell ⟨go5,(x5_1:Int).toNat * 2,none⟩ (.int .i64 x1_1))) ?hg ?ho ?hn ?hr ?_;(case ho=>rfl);(case hg=>rfl);(case hn=>rfl);(case hr=>first|(go_simp;done)|(go_simp;rfl));intro w8 hw;have hg:wr.grownBy w8 (some go5):=(by rw [hw];exact HP5.2);have hp_:Kd.S k29 29 w8 w0.heap.size (fun k_=>(P0_ k_ ∨ w.heap.size ≤ k_)) (.slice (some ⟨go5,0,none⟩) x0_1.length co) (x0_1.set x5_1.toNat (⟨x1_1, (x0_1.getD x5_1.toNat z29).f1⟩ : S29)):=(by rw [hw];exact HP5.1);clear HP5;have n1_:=Aside0.mk ((by rw [hw];exact below_set (HB.out) GB5.out:Below w0.heap.size w0 w8));have n2_:=Aside0.mk (Kept.of_grown (S:=(fun k_=>P0_ k_)) hg (by repeat (first|(with_reducible first|exact HK.out|apply Kept.alloc|apply Kept.drewN|apply Kept.drew)|exact HK.out)) (fun k_ e_=>(Kd.S_R HO_0.out).1 k_ e_));clear HO_0 HB HK hx5_0 hx5_1 hf5_0 hf5_1;have HO_0:=Aside0.mk hp_;have HB:=n1_;have HK:=n2_;clear n1_ n2_ hg hw hp_;
        obtain ⟨oki6, ce6, hcl6, hM6, hcc6, hfr6, hoki6, hH6⟩ := Kd.S_elem HO_0.out z29 x5_1 c4'.out c3'.out;
        have hM7 : (k29).M w8 w0.heap.size oki6 (⟨x1_1, (x0_1.getD x5_1.toNat z29).f1⟩ : S29) ce6 := (by have hl_ := c3'.out; have h0_ := c4'.out; rw [show (x0_1.set x5_1.toNat (⟨x1_1, (x0_1.getD x5_1.toNat z29).f1⟩ : S29)).getD x5_1.toNat z29 = (⟨x1_1, (x0_1.getD x5_1.toNat z29).f1⟩ : S29) from (by rw [List.getD_eq_getElem?_getD, List.getElem?_set_self (by omega)]; rfl)] at hM6; exact hM6);
        obtain ⟨ve6, rfl, ge6⟩ := k29_openM hM7;
        have hx6_1 := hcc6 1 _ rfl;
        (try simp only [show (k29).sz = 2 from rfl,Nat.mul_one,Nat.add_zero] at hx6_1);
        have HH6 := Aside0.mk hH6; have HE6 := Aside0.mk ge6; have HI6 := Aside0.mk hoki6; clear hcl6 hM6 hM7 hcc6 hfr6 hoki6 hH6 ge6)
     | ((with_reducible refine gate_callee (f:=54) rfl ?_);refine goesL_ (some 25) rfl rfl Try.func54 (by kernel_rfl) rfl #[ve6, .int .i64 (wrap64 (x1_1 + 1))] rfl (by (try simp only [List.map_toArray,List.map_cons,List.map_nil]);first|done|rfl) ?_;(with_reducible refine (laws_markUint64S.calls k1 oki6 ve6 (x0_1.getD x5_1.toNat z29).f1 (wrap64 (x1_1 + 1)) t1 t2 w0 _ ?side1 ?side2 AM.out).mono ?_);(case side1=>exact (by repeat (first|(with_reducible first|exact HB.out|apply below_alloc|apply pw_below_drewN|apply below_drew1)|exact HB.out)));(case side2=>exact (by (with_reducible repeat (first|apply Kd.R_alloc|apply Kd.R_drewN|apply Kd.R_drew)); exact HE6.out));rintro e w9 ⟨rfl,hr,hb,hk⟩;refine⟨_,rfl,?_⟩;
        have n0_ := Aside0.mk (Kd.H_back (Kd.H_kept HH6.out hk (fun k_ _ hn => hn)) (k29_mkM _ _ _ (⟨x1_1, t2⟩ : S29) (Kd.R_mono (Kd.R_tight rfl hr) (fun k_ e_ => HE6.out.1 k_ e_.symm))) (fun _ h_ => h_));
        have n1_ := Aside0.mk hb; have n2_ := Aside0.mk (Kept.then_ (by repeat (first|(with_reducible first|exact HK.out|apply Kept.alloc|apply Kept.drewN|apply Kept.drew)|exact HK.out)) hk (fun k_ h_ => (HI6.out k_ h_).1));
        clear HO_0 HB HK HH6 HE6 hr hb hk; have HO_0 := n0_; have HB := n1_; have HK := n2_; clear n0_ n1_ n2_))
   go_roundg k1
   case measure => have := HK1.out; omega
   case rel => exact ⟨x0_1.set x5_1.toNat (⟨x1_1, t2⟩ : S29), t1, wrap64 (x5_1 + 1), rfl, rfl, H', ⟨by have := HK1.out; omega⟩, ⟨by (with_reducible repeat (first|apply Kd.S_alloc|apply Kd.S_drewN|apply Kd.S_drew)); have h_ := HO_0.out; rw [List.set_set] at h_; exact h_⟩, ⟨by repeat (first|(with_reducible first|exact HK.out|apply Kept.alloc|apply Kept.drewN|apply Kept.drew)|exact HK.out)⟩, ⟨by repeat (first|(with_reducible first|exact HB.out|apply below_alloc|apply pw_below_drewN|apply below_drew1)|exact HB.out)⟩⟩
/-! ### laws_markWave: function 30 (by hand) -/
def laws_markWave.f (k : Nat) (a0_0 : Int) (l1 : List Int) (l2 : List S29) (a1 : Int) : Option (Int × List Int × List S29) := (laws_markIntS.f k l1 a1).bind fun t => (laws_markBitsS.f k l2 t.1).bind fun t2 => some (t2.1, t.2, t2.2)
set_option maxHeartbeats 8000000 in
set_option maxRecDepth 100000 in
theorem laws_markWave.calls (k : Nat) (a0_0 : Int) (P1_ : Nat → Prop) (u1 : Value) (l1 : List Int) (P2_ : Nat → Prop) (u2 : Value) (l2 : List S29) (a1 : Int) (r1 : Int) (r2 : List Int) (r3 : List S29) (w0 w : World) (hB : Below w0.heap.size w0 w) (ho1 : Kd.R (Kd.int .i64) 3 w w0.heap.size P1_ u1 l1) (ho2 : Kd.S k29 29 w w0.heap.size P2_ u2 l2) (hd : ∀ k_, P1_ k_ → ¬ P2_ k_) (h : laws_markWave.f k a0_0 l1 l2 a1 = some (r1, r2, r3)) :
  Calls Try.prog 30 #[.agg #[.int .i64 a0_0, u1, u2], .int .i64 a1] w fun e w' => e = .returned (.int .i64 r1) ∧ Kd.R (Kd.int .i64) 3 w' w0.heap.size (fun k_ => P1_ k_) u1 r2 ∧ Kd.S k29 29 w' w0.heap.size (fun k_ => P2_ k_ ∨ w.heap.size ≤ k_) u2 r3 ∧ Below w0.heap.size w0 w' ∧ Kept w w' (fun k_ => P1_ k_ ∨ P2_ k_) := by
 have HD := Aside0.mk (fun k_ (e_ : some k_ = u1.ownBlock) => hd k_ (ho1.1 k_ e_.symm))
 have HP1 := Aside0.mk (fun k_ (e_ : some k_ = u1.ownBlock) => ho1.1 k_ e_.symm)
 have HL1 := Aside0.mk (Kd.R_lt ho1)
 have H1 := Aside0.mk (Kd.R_tight rfl ho1)
 have H2 := Aside0.mk (Kd.S_bound ho2)
 have HB := Aside0.mk hB
 clear hB ho1 ho2 hd
 unfold laws_markWave.f at h
 obtain ⟨⟨t1, t2⟩, A1, h⟩ := Option.bind_eq_some_iff.mp h
 obtain ⟨⟨t3, t4⟩, A2, h⟩ := Option.bind_eq_some_iff.mp h
 simp only [Option.some.injEq, Prod.mk.injEq] at h
 obtain ⟨rfl, rfl, rfl⟩ := h
 have AM := Aside0.mk A1
 have AN := Aside0.mk (show laws_markBitsS.f k l2 t1 = some (t3, t4) from A2)
 clear A1 A2
 obtain ⟨B1, c1, e1⟩ := Kd.R_slice H1.out
 subst e1
 obtain ⟨B2, c2, e2⟩ := Kd.S_slice H2.out
 subst e2
 have S1 := Aside0.mk (show ∀ k_, some k_ = (Value.slice B1 l1.length c1).ownBlock → k_ < w.heap.size from fun k_ e_ => HL1.out k_ e_.symm)
 go_enter Try.func30, Try.ntmps30
 go_wp2_with (first
   | ((with_reducible refine gate_dst (N:=2) rfl ?_);refine box_event ?hg (N:=2) ?hd (cs:=#[.int .i64 a0_0, .slice B1 l1.length c1, .slice B2 l2.length c2]) (t:=26) ?hr ?_;(case hd=>rfl);(case hg=>rfl);(case hr=>first|(go_simp;done)|(go_simp;rfl));intro gb hg w6 hbox hb;
      have BK := Aside0.mk hbox; have GN := Aside0.mk (show ¬ some gb = (Value.slice B1 l1.length c1).ownBlock from fun e_ => by have := S1.out gb e_; omega); have h1_ := Kd.R_below H1.out hb; have h2_ := Kd.S_below H2.out hb; have hb_ := below_step HB.out hb; have hk_ := Kept.of_below hb (fun k_ => P1_ k_ ∨ P2_ k_);
      clear H1 H2 HB; have H1 := Aside0.mk h1_; have H2 := Aside0.mk h2_; have HB := Aside0.mk hb_; have HK := Aside0.mk hk_; clear h1_ h2_ hb_ hk_ hb hg;
      have hx_1 : w6.cell? ⟨gb, 1, none⟩ = some (.slice B1 l1.length c1) := (blk_cell hbox 1).trans rfl; have hx_2 : w6.cell? ⟨gb, 2, none⟩ = some (.slice B2 l2.length c2) := (blk_cell hbox 2).trans rfl; clear hbox)
   | ((with_reducible refine gate_callee (f:=31) rfl ?_);refine goesL_ (some 8) rfl rfl Try.func31 (by kernel_rfl) rfl #[.slice B1 l1.length c1, .int .i64 a1] rfl (by (try simp only [List.map_toArray,List.map_cons,List.map_nil]);first|done|rfl) ?_;(with_reducible refine (laws_markIntS.calls k (fun k_ => some k_ = (Value.slice B1 l1.length c1).ownBlock) _ l1 a1 t1 t2 w0 _ ?side1 ?side2 AM.out).mono ?_);(case side1=>exact (by repeat (first|(with_reducible first|exact HB.out|apply below_alloc|apply pw_below_drewN|apply below_drew1)|exact HB.out)));(case side2=>exact (by (with_reducible repeat (first|apply Kd.R_alloc|apply Kd.R_drewN|apply Kd.R_drew)); exact H1.out));rintro e w7 ⟨rfl,hr,hb,hk⟩;refine⟨_,rfl,?_⟩;
      have bk_ := blk_kept BK.out hk GN.out; have r1_ := Kd.R_tight rfl hr; have tl_ := Kd.R_typed hr; have h2_ := Kd.S_mono (ok' := fun k_ => P2_ k_ ∧ ¬ some k_ = (Value.slice B1 l1.length c1).ownBlock) (Kd.S_kept H2.out hk (fun k_ hk2_ e_ => HD.out k_ e_ hk2_.1)) (fun k_ hk2_ => ⟨hk2_.1, fun e_ => HD.out k_ e_ hk2_.1⟩); have hk_ := Kept.then_ (S := fun k_ => P1_ k_ ∨ P2_ k_) (by repeat (first|(with_reducible first|exact HK.out|apply Kept.alloc|apply Kept.drewN|apply Kept.drew)|exact HK.out)) hk (fun k_ e_ => .inl (.inl (HP1.out k_ e_)));
      clear H1 H2 HB HK BK hr hk; have H2 := Aside0.mk h2_; have HB := Aside0.mk hb; have HK := Aside0.mk hk_; have R1 := Aside0.mk r1_; clear h2_ hb hk_ r1_ tl_;
      have hx7_2 : w7.cell? ⟨gb, 2, none⟩ = some (.slice B2 l2.length c2) := (blk_cell bk_ 2).trans rfl; clear bk_)
   | ((with_reducible refine gate_callee (f:=53) rfl ?_);refine goesL_ (some 12) rfl rfl Try.func53 (by kernel_rfl) rfl #[.slice B2 l2.length c2, .int .i64 t1] rfl (by (try simp only [List.map_toArray,List.map_cons,List.map_nil]);first|done|rfl) ?_;(with_reducible refine (laws_markBitsS.calls k (fun k_ => P2_ k_ ∧ ¬ some k_ = (Value.slice B1 l1.length c1).ownBlock) _ l2 t1 t3 t4 w0 _ ?side1 ?side2 AN.out).mono ?_);(case side1=>exact (by repeat (first|(with_reducible first|exact HB.out|apply below_alloc|apply pw_below_drewN|apply below_drew1)|exact HB.out)));(case side2=>exact (by (with_reducible repeat (first|apply Kd.S_alloc|apply Kd.S_drewN|apply Kd.S_drew)); exact H2.out));rintro e w8 ⟨rfl,hs,hb,hk⟩;refine⟨_,rfl,?_⟩; have r1_ := Kd.R_kept R1.out hk (fun k_ e_ h_ => h_.2 e_); have s_ := Kd.S_mono (ok' := fun k_ => P2_ k_ ∨ w.heap.size ≤ k_) hs (fun k_ h_ => h_.elim (fun h2 => .inl h2.1) (fun h2 => .inr (Nat.le_trans (show Kept w _ (fun k_ => P1_ k_ ∨ P2_ k_) from by repeat (first|(with_reducible first|exact HK.out|apply Kept.alloc|apply Kept.drewN|apply Kept.drew)|exact HK.out)).1 h2)));
      have hk_ := Kept.then_ (S := fun k_ => P1_ k_ ∨ P2_ k_) (by repeat (first|(with_reducible first|exact HK.out|apply Kept.alloc|apply Kept.drewN|apply Kept.drew)|exact HK.out)) hk (fun k_ e_ => .inl (.inr e_.1));
      clear H2 HB HK hk R1 hs; have R1 := Aside0.mk r1_; have S2 := Aside0.mk s_; clear r1_ s_; have HB := Aside0.mk hb; have HK := Aside0.mk hk_; clear hb hk_))
 go_ret
 exact ⟨rfl, Kd.R_mono (rR R1.out) (fun k_ e_ => HP1.out k_ e_), rS S2.out, kB HB.out, by repeat (first|(with_reducible first|exact HK.out|apply Kept.alloc|apply Kept.drewN|apply Kept.drew)|exact HK.out)⟩
/-! ### laws_markBits: function 32 -/
def laws_markBits.f (k : Nat) (a0_0 : Int) (l0_1 : List Int) (a1 : Int) : Option (Int × List Int) := (laws_markUint64S.f k l0_1 a1).bind fun bt541 => (some (bt541.1, bt541.2))
set_option maxHeartbeats 8000000 in
set_option maxRecDepth 100000 in
theorem laws_markBits.calls (k : Nat) (a0_0 : Int) (P0_1_ : Nat → Prop) (u9000_ : Value) (l0_1 : List Int) (a1 : Int) (r1 : Int) (r2 : List Int) (w0 w : World) (hB : Below w0.heap.size w0 w) (ho0_1 : Kd.R (Kd.int .u64) 67 w w0.heap.size P0_1_ u9000_ l0_1) (h : laws_markBits.f k a0_0 l0_1 a1 = some (r1, r2)) :
  Calls Try.prog 32 #[.agg #[.int .i64 a0_0, u9000_], .int .i64 a1] w fun e w' => e = .returned (.int .i64 r1) ∧ Kd.R (Kd.int .u64) 67 w' w0.heap.size (fun k_ => (P0_1_ k_ ∨ w.heap.size ≤ k_)) u9000_ r2 ∧ Below w0.heap.size w0 w' ∧ Kept w w' (fun k_ => P0_1_ k_) := by
 have hu29:=Try.underlying29
 have HO0_1:=mk0 (show Kd.R (Kd.int .u64) 67 w w0.heap.size (fun k_=>(P0_1_ k_ ∨ w.heap.size ≤ k_)) u9000_ l0_1 from Kd.R_mono ho0_1 (fun k_ hk=>(.inl hk)))
 have HK:=mk0 (Kept.refl w (fun k_=>P0_1_ k_))
 have HW0:=mk0 hB.size
 have HB:=mk0 hB
 clear hB
 have H:((laws_markUint64S.f k l0_1 a1).bind fun bt541=>(some (bt541.1,bt541.2))) = some (r1,r2):=h
 clear h
 replace H:=bE H
 obtain⟨⟨t541,t542⟩,A3,H⟩:=H
 dsimp only at H
 simp only [Option.some.injEq,Prod.mk.injEq] at H
 obtain⟨rfl,rfl⟩:=H
 obtain⟨Ao4,co4,eo4⟩:=Kd.R_slice HO0_1.out
 subst eo4
 go_enter Try.func32,Try.ntmps32
 go_wp2_with (first|((with_reducible refine gate_dst (N:=2) rfl ?_);refine box_event ?hg (N:=2) ?hd (cs:=#[.int .i64 a0_0,.slice Ao4 l0_1.length co4]) (t:=29) ?hr ?_;(case hd=>rfl);(case hg=>rfl);(case hr=>first|(go_simp;done)|(go_simp;rfl));intro gb540 hg w5 hbox hb;replace HO0_1:=mk0 (bR HO0_1.out hb);have BK540:=mk0 (hbox);have GW540:=mk0 ((by rw [hg];exact (by first|exact HK.out.1|exact (show Kept w _ (fun k_=>P0_1_ k_) from by repeat (first|(with_reducible first|exact HK.out|apply Kept.alloc|apply Kept.drewN|apply Kept.drew)|exact HK.out)).1):w.heap.size ≤ gb540));replace HK:=mk0 (Kept.below (S:=(fun k_=>P0_1_ k_)) (by repeat (first|(with_reducible first|exact HK.out|apply Kept.alloc|apply Kept.drewN|apply Kept.drew)|exact HK.out)) hb);have GE540:=mk0 ((by rw [hg];exact (kZ HB.out):w0.heap.size ≤ gb540));replace HB:=mk0 (kS HB.out hb);clear hb hbox hg;obtain⟨hcz6_0,hcz6_1,hfz6_0,hfz6_1⟩:=cz2 BK540.out)|((with_reducible refine gate_callee (f:=54) rfl ?_);refine gL (some 8) Try.func54 #[.slice Ao4 l0_1.length co4,.int .i64 a1] ?_;(with_reducible refine (laws_markUint64S.calls k (fun k_=>some k_ = (.slice Ao4 l0_1.length co4:Value).ownBlock) (.slice Ao4 l0_1.length co4) l0_1 a1 t541 t542 w0 _ ?side1 ?side2 A3.out).mono ?_);(case side1=>repeat (first|(with_reducible first|exact HB.out|apply aZ|apply nZ|apply dZ|refine sZ ?_ GE540.out)|exact HB.out));(case side2=>exact Kd.R_tight rfl HO0_1.out);rintro e w7 ⟨rfl,hy0,hb,hkp⟩;refine⟨_,rfl,?_⟩;replace BK540:=mk0 (blk_kept (kN BK540.out) hkp (fun hs_=>(fun e_=>(Kd.R_ne HO0_1.out BK540.out (by decide)) e_) hs_));replace HK:=mk0 (Kept.then_ (S:=(fun k_=>P0_1_ k_)) (by repeat (first|(with_reducible first|exact HK.out|apply Kept.alloc|apply Kept.drewN|apply Kept.drew|refine Kept.setCell ?_ (.inr GW540.out) _)|exact HK.out)) hkp (fun k_ hs_=>(fun e_=>(HO0_1.out.1 k_ e_.symm)) hs_));replace HO0_1:=mk0 (Kd.R_reok rfl hy0 (fun k_ e_=>HO0_1.out.1 k_ e_));replace HB:=mk0 (hb);(try clear hb);(try clear hkp);(try clear hy0)))
 go_ret
 exact⟨eR,rR HO0_1.out,kB HB.out,by repeat (first|(with_reducible first|exact HK.out|apply Kept.alloc|apply Kept.drewN|apply Kept.drew|refine Kept.setCell ?_ (.inr GW540.out) _)|exact HK.out)⟩
/-! ### laws_markPacked: function 33 -/
def laws_markPacked.f (k : Nat) (a0_0 : Int) (a0_1 : Int) (a0_2 : Int) (l0_3 : List Int) (a1 : Int) : Option (Int × List Int) := (laws_markBits.f k a0_2 l0_3 a1).bind fun bt544 => (some (bt544.1, bt544.2))
set_option maxHeartbeats 8000000 in
set_option maxRecDepth 100000 in
theorem laws_markPacked.calls (k : Nat) (a0_0 : Int) (a0_1 : Int) (a0_2 : Int) (P0_3_ : Nat → Prop) (u9000_ : Value) (l0_3 : List Int) (a1 : Int) (r1 : Int) (r2 : List Int) (w0 w : World) (hB : Below w0.heap.size w0 w) (ho0_3 : Kd.R (Kd.int .u64) 67 w w0.heap.size P0_3_ u9000_ l0_3) (h : laws_markPacked.f k a0_0 a0_1 a0_2 l0_3 a1 = some (r1, r2)) :
  Calls Try.prog 33 #[.agg #[.int .i64 a0_0, .int .i64 a0_1, .int .i64 a0_2, u9000_], .int .i64 a1] w fun e w' => e = .returned (.int .i64 r1) ∧ Kd.R (Kd.int .u64) 67 w' w0.heap.size (fun k_ => (P0_3_ k_ ∨ w.heap.size ≤ k_)) u9000_ r2 ∧ Below w0.heap.size w0 w' ∧ Kept w w' (fun k_ => P0_3_ k_) := by
 have hu31:=Try.underlying31
 have hu29:=Try.underlying29
 have HO0_3:=mk0 (show Kd.R (Kd.int .u64) 67 w w0.heap.size (fun k_=>(P0_3_ k_ ∨ w.heap.size ≤ k_)) u9000_ l0_3 from Kd.R_mono ho0_3 (fun k_ hk=>(.inl hk)))
 have HK:=mk0 (Kept.refl w (fun k_=>P0_3_ k_))
 have HW0:=mk0 hB.size
 have HB:=mk0 hB
 clear hB
 have H:((laws_markBits.f k a0_2 l0_3 a1).bind fun bt544=>(some (bt544.1,bt544.2))) = some (r1,r2):=h
 clear h
 replace H:=bE H
 obtain⟨⟨t544,t545⟩,A3,H⟩:=H
 dsimp only at H
 simp only [Option.some.injEq,Prod.mk.injEq] at H
 obtain⟨rfl,rfl⟩:=H
 obtain⟨Ao4,co4,eo4⟩:=Kd.R_slice HO0_3.out
 subst eo4
 go_enter Try.func33,Try.ntmps33
 go_wp2_with (first|((with_reducible refine gate_dst (N:=2) rfl ?_);refine box_event ?hg (N:=2) ?hd (cs:=#[.int .i64 a0_0,.int .i64 a0_1,.int .i64 a0_2,.slice Ao4 l0_3.length co4]) (t:=31) ?hr ?_;(case hd=>rfl);(case hg=>rfl);(case hr=>first|(go_simp;done)|(go_simp;rfl));intro gb543 hg w5 hbox hb;replace HO0_3:=mk0 (bR HO0_3.out hb);have BK543:=mk0 (hbox);have GW543:=mk0 ((by rw [hg];exact (by first|exact HK.out.1|exact (show Kept w _ (fun k_=>P0_3_ k_) from by repeat (first|(with_reducible first|exact HK.out|apply Kept.alloc|apply Kept.drewN|apply Kept.drew)|exact HK.out)).1):w.heap.size ≤ gb543));replace HK:=mk0 (Kept.below (S:=(fun k_=>P0_3_ k_)) (by repeat (first|(with_reducible first|exact HK.out|apply Kept.alloc|apply Kept.drewN|apply Kept.drew)|exact HK.out)) hb);have GE543:=mk0 ((by rw [hg];exact (kZ HB.out):w0.heap.size ≤ gb543));replace HB:=mk0 (kS HB.out hb);clear hb hbox hg;obtain⟨hcz6_0,hcz6_1,hcz6_2,hcz6_3,hfz6_0,hfz6_1,hfz6_2,hfz6_3⟩:=cz4 BK543.out)|((with_reducible refine gate_callee (f:=32) rfl ?_);refine gL (some 8) Try.func32 #[.agg #[.int .i64 a0_2,.slice Ao4 l0_3.length co4],.int .i64 a1] ?_;(with_reducible refine (laws_markBits.calls k a0_2 (fun k_=>some k_ = (.slice Ao4 l0_3.length co4:Value).ownBlock) (.slice Ao4 l0_3.length co4) l0_3 a1 t544 t545 w0 _ ?side1 ?side2 A3.out).mono ?_);(case side1=>repeat (first|(with_reducible first|exact HB.out|apply aZ|apply nZ|apply dZ|refine sZ ?_ GE543.out)|exact HB.out));(case side2=>exact Kd.R_tight rfl HO0_3.out);rintro e w7 ⟨rfl,hy0,hb,hkp⟩;refine⟨_,rfl,?_⟩;replace BK543:=mk0 (blk_kept (kN BK543.out) hkp (fun hs_=>(fun e_=>(Kd.R_ne HO0_3.out BK543.out (by decide)) e_) hs_));replace HK:=mk0 (Kept.then_ (S:=(fun k_=>P0_3_ k_)) (by repeat (first|(with_reducible first|exact HK.out|apply Kept.alloc|apply Kept.drewN|apply Kept.drew|refine Kept.setCell ?_ (.inr GW543.out) _)|exact HK.out)) hkp (fun k_ hs_=>(fun e_=>(HO0_3.out.1 k_ e_.symm)) hs_));replace HO0_3:=mk0 (Kd.R_reok rfl hy0 (fun k_ e_=>HO0_3.out.1 k_ e_));replace HB:=mk0 (hb);(try clear hb);(try clear hkp);(try clear hy0)))
 go_ret
 exact⟨eR,rR HO0_3.out,kB HB.out,by repeat (first|(with_reducible first|exact HK.out|apply Kept.alloc|apply Kept.drewN|apply Kept.drew|refine Kept.setCell ?_ (.inr GW543.out) _)|exact HK.out)⟩
/-! ### laws_markFm: function 10 -/
def laws_markFm.f (k : Nat) (a0 a1 a2 : Int) (z : List Int) (L : List S29) (c : List Int) (a6 : Int) (m : List Int) (a8 a9 a10 : Int) (s : List Int) (a12 a13 a14 : Int) (i : List Int) (n : Int) : Option (Int × List Int × List S29 × List Int × List Int × List Int × List Int) :=
 (laws_markWave.f k a2 z L n).bind fun p => (laws_markIntS.f k c p.1).bind fun q => (laws_markBits.f k a6 m q.1).bind fun x => (laws_markPacked.f k a8 a9 a10 s x.1).bind fun y => (laws_markPacked.f k a12 a13 a14 i y.1).bind fun u => some (u.1, p.2.1, p.2.2, q.2, x.2, y.2, u.2)
set_option maxHeartbeats 8000000 in
set_option maxRecDepth 100000 in
theorem laws_markFm.calls (k : Nat) (a0 a1 a2 : Int) (z : List Int) (L : List S29) (c : List Int) (a6 : Int) (m : List Int) (a8 a9 a10 : Int) (s : List Int) (a12 a13 a14 : Int) (i : List Int) (n : Int) (v3 v4 v5 v7 v11 v15 : Value) (r1 : Int) (r3 : List Int) (r4 : List S29) (r5 r7 r11 r15 : List Int) (f : Nat → Nat) (w0 w : World) (hB : Below w0.heap.size w0 w) (hM : Fm.M6 k29 29 f w0 w v3 v4 v5 v7 v11 v15 z L c m s i) (h : laws_markFm.f k a0 a1 a2 z L c a6 m a8 a9 a10 s a12 a13 a14 i n = some (r1, r3, r4, r5, r7, r11, r15)) :
  Calls Try.prog 10 #[.agg #[.int .i64 a0,.int .i64 a1,.int .i64 a2,v3,v4,v5,.int .i64 a6,v7,.int .i64 a8,.int .i64 a9,.int .i64 a10,v11,.int .i64 a12,.int .i64 a13,.int .i64 a14,v15], .int .i64 n] w fun e w' => e = .returned (.int .i64 r1) ∧ Fm.R6 k29 29 w0 w' v3 v4 v5 v7 v11 v15 r3 r4 r5 r7 r11 r15 ∧ Below w0.heap.size w0 w' ∧ Kept w w' (fun k_=>f k_ ≠ 0) := by
 have hu33:=Try.underlying33
 have hu26:=Try.underlying26
 have hu29:=Try.underlying29
 have hu31:=Try.underlying31
 unfold laws_markFm.f at h
 replace h:=bE h
 obtain⟨⟨p1,p2,p3⟩,B1,h⟩:=h
 dsimp only at h
 replace h:=bE h
 obtain⟨⟨q1,q2⟩,B2,h⟩:=h
 dsimp only at h
 replace h:=bE h
 obtain⟨⟨x1,x2⟩,B3,h⟩:=h
 dsimp only at h
 replace h:=bE h
 obtain⟨⟨y1,y2⟩,B4,h⟩:=h
 dsimp only at h
 replace h:=bE h
 obtain⟨⟨u1,u2⟩,B5,h⟩:=h
 simp only [Option.some.injEq,Prod.mk.injEq] at h
 obtain⟨rfl,rfl,rfl,rfl,rfl,rfl,rfl⟩:=h
 have HO3:=mk0 (Kd.R_mono (ok':=fun k_=>f k_ = 3 ∧ k_ < w.heap.size) (Kd.R_bound hM.r3) (fun k_ h_=>⟨h_.1,h_.2.2.1⟩))
 have HO4:=mk0 (Kd.S_mono (ok':=fun k_=>f k_ = 4 ∧ k_ < w.heap.size) (Kd.S_bound hM.r4) (fun k_ h_=>⟨h_.1,h_.2.2.1⟩))
 have HO5:=mk0 (Kd.R_mono (ok':=fun k_=>f k_ = 5 ∧ k_ < w.heap.size) (Kd.R_bound hM.r5) (fun k_ h_=>⟨h_.1,h_.2.2.1⟩))
 have HO7:=mk0 (Kd.R_mono (ok':=fun k_=>f k_ = 7 ∧ k_ < w.heap.size) (Kd.R_bound hM.r7) (fun k_ h_=>⟨h_.1,h_.2.2.1⟩))
 have HO11:=mk0 (Kd.R_mono (ok':=fun k_=>f k_ = 11 ∧ k_ < w.heap.size) (Kd.R_bound hM.r11) (fun k_ h_=>⟨h_.1,h_.2.2.1⟩))
 have HO15:=mk0 (Kd.R_mono (ok':=fun k_=>f k_ = 15 ∧ k_ < w.heap.size) (Kd.R_bound hM.r15) (fun k_ h_=>⟨h_.1,h_.2.2.1⟩))
 obtain⟨A3,c3,e_⟩:=Kd.R_slice HO3.out
 subst e_
 obtain⟨A4,c4,e_⟩:=Kd.S_slice HO4.out
 subst e_
 obtain⟨A5,c5,e_⟩:=Kd.R_slice HO5.out
 subst e_
 obtain⟨A7,c7,e_⟩:=Kd.R_slice HO7.out
 subst e_
 obtain⟨A11,c11,e_⟩:=Kd.R_slice HO11.out
 subst e_
 obtain⟨A15,c15,e_⟩:=Kd.R_slice HO15.out
 subst e_
 have HB:=mk0 hB
 clear hB hM
 go_enter Try.func10,Try.ntmps10
 go_wp2_with (first
  |((with_reducible refine gate_dst (N:=2) rfl ?_);refine box_event ?hg (N:=2) ?hd (cs:=#[.int .i64 a0,.int .i64 a1,.int .i64 a2,.slice A3 z.length c3,.slice A4 L.length c4,.slice A5 c.length c5,.int .i64 a6,.slice A7 m.length c7,.int .i64 a8,.int .i64 a9,.int .i64 a10,.slice A11 s.length c11,.int .i64 a12,.int .i64 a13,.int .i64 a14,.slice A15 i.length c15]) (t:=33) ?hr ?_;(case hd=>rfl);(case hg=>rfl);(case hr=>first|(go_simp;done)|(go_simp;rfl));intro gb hg w4 hbox hb;replace HO3:=mk0 (bR HO3.out hb);replace HO4:=mk0 (bS HO4.out hb);replace HO5:=mk0 (bR HO5.out hb);replace HO7:=mk0 (bR HO7.out hb);replace HO11:=mk0 (bR HO11.out hb);replace HO15:=mk0 (bR HO15.out hb);have BK:=mk0 hbox;have HK:=mk0 (Kept.of_below hb (fun k_=>f k_ ≠ 0));have GN:=mk0 (show w.heap.size ≤ gb from Nat.le_of_eq hg.symm);have SZ:=mk0 (show w.heap.size ≤ w4.heap.size from hb.size);replace HB:=mk0 (kS HB.out hb);clear hb hbox hg;have x2_:w4.cell? ⟨gb,2,none⟩ = some (.int .i64 a2):=(blk_cell BK.out 2).trans rfl;have x3_:w4.cell? ⟨gb,3,none⟩ = some (.slice A3 z.length c3):=(blk_cell BK.out 3).trans rfl;have x4_:w4.cell? ⟨gb,4,none⟩ = some (.slice A4 L.length c4):=(blk_cell BK.out 4).trans rfl)
  |((with_reducible refine gate_callee (f:=30) rfl ?_);refine gL (some 8) Try.func30 #[.agg #[.int .i64 a2,.slice A3 z.length c3,.slice A4 L.length c4],.int .i64 n] ?_;(with_reducible refine (laws_markWave.calls k a2 (fun k_=>f k_ = 3 ∧ k_ < w.heap.size) _ z (fun k_=>f k_ = 4 ∧ k_ < w.heap.size) _ L n p1 p2 p3 w0 _ ?side1 ?side2 ?side3 ?side4 B1.out).mono ?_);(case side1=>exact HB.out);(case side2=>exact HO3.out);(case side3=>exact HO4.out);(case side4=>exact (fun k_ h1 h2=>(by omega)));rintro e w5 ⟨rfl,h3,h4,hb,hk⟩;refine⟨_,rfl,?_⟩;clear HO3 HO4;have HO3:=mk0 h3;have HO4:=mk0 (Kd.S_mono (ok':=fun k_=>f k_ = 4 ∧ k_ < w.heap.size ∨ w.heap.size ≤ k_) h4 (fun k_ h_=>h_.elim (fun h=>.inl h) (fun h=>.inr (Nat.le_trans SZ.out h))));clear h3 h4;replace HO5:=mk0 (Kd.R_kept HO5.out hk (fun k_ h_ s_=>(by omega)));replace HO7:=mk0 (Kd.R_kept HO7.out hk (fun k_ h_ s_=>(by omega)));replace HO11:=mk0 (Kd.R_kept HO11.out hk (fun k_ h_ s_=>(by omega)));replace HO15:=mk0 (Kd.R_kept HO15.out hk (fun k_ h_ s_=>(by omega)));replace BK:=mk0 (blk_kept BK.out hk (by have g_:=GN.out;omega));replace HK:=mk0 (Kept.then_ HK.out hk (fun k_ h_=>.inl (by omega)));replace HB:=mk0 hb;clear hb hk;have x5_:w5.cell? ⟨gb,5,none⟩ = some (.slice A5 c.length c5):=(blk_cell BK.out 5).trans rfl)
  |((with_reducible refine gate_callee (f:=31) rfl ?_);refine gL (some 12) Try.func31 #[.slice A5 c.length c5,.int .i64 p1] ?_;(with_reducible refine (laws_markIntS.calls k (fun k_=>f k_ = 5 ∧ k_ < w.heap.size) _ c p1 q1 q2 w0 _ ?side1 ?side2 B2.out).mono ?_);(case side1=>exact HB.out);(case side2=>exact HO5.out);rintro e w6 ⟨rfl,hr,hb,hk⟩;refine⟨_,rfl,?_⟩;have n_:=Kd.R_mono (ok':=fun k_=>f k_ = 5 ∧ k_ < w.heap.size) (Kd.R_tight rfl hr) (fun k_ e_=>HO5.out.1 k_ e_.symm);clear HO5 hr;have HO5:=mk0 n_;clear n_;replace HO3:=mk0 (Kd.R_kept HO3.out hk (fun k_ h_ s_=>(by omega)));replace HO4:=mk0 (Kd.S_kept HO4.out hk (fun k_ h_ s_=>(by omega)));replace HO7:=mk0 (Kd.R_kept HO7.out hk (fun k_ h_ s_=>(by omega)));replace HO11:=mk0 (Kd.R_kept HO11.out hk (fun k_ h_ s_=>(by omega)));replace HO15:=mk0 (Kd.R_kept HO15.out hk (fun k_ h_ s_=>(by omega)));replace BK:=mk0 (blk_kept BK.out hk (by have g_:=GN.out;omega));replace HK:=mk0 (Kept.then_ HK.out hk (fun k_ h_=>.inl (by omega)));replace HB:=mk0 hb;clear hb hk;have x6_:w6.cell? ⟨gb,6,none⟩ = some (.int .i64 a6):=(blk_cell BK.out 6).trans rfl;have x7_:w6.cell? ⟨gb,7,none⟩ = some (.slice A7 m.length c7):=(blk_cell BK.out 7).trans rfl)
  |((with_reducible refine gate_callee (f:=32) rfl ?_);refine gL (some 16) Try.func32 #[.agg #[.int .i64 a6,.slice A7 m.length c7],.int .i64 q1] ?_;(with_reducible refine (laws_markBits.calls k a6 (fun k_=>f k_ = 7 ∧ k_ < w.heap.size) _ m q1 x1 x2 w0 _ ?side1 ?side2 B3.out).mono ?_);(case side1=>exact HB.out);(case side2=>exact HO7.out);rintro e w7 ⟨rfl,hr,hb,hk⟩;refine⟨_,rfl,?_⟩;have n_:=Kd.R_mono (ok':=fun k_=>f k_ = 7 ∧ k_ < w.heap.size) (Kd.R_tight rfl hr) (fun k_ e_=>HO7.out.1 k_ e_.symm);clear HO7 hr;have HO7:=mk0 n_;clear n_;replace HO3:=mk0 (Kd.R_kept HO3.out hk (fun k_ h_ s_=>(by omega)));replace HO4:=mk0 (Kd.S_kept HO4.out hk (fun k_ h_ s_=>(by omega)));replace HO5:=mk0 (Kd.R_kept HO5.out hk (fun k_ h_ s_=>(by omega)));replace HO11:=mk0 (Kd.R_kept HO11.out hk (fun k_ h_ s_=>(by omega)));replace HO15:=mk0 (Kd.R_kept HO15.out hk (fun k_ h_ s_=>(by omega)));replace BK:=mk0 (blk_kept BK.out hk (by have g_:=GN.out;omega));replace HK:=mk0 (Kept.then_ HK.out hk (fun k_ h_=>.inl (by omega)));replace HB:=mk0 hb;clear hb hk;have x8_:w7.cell? ⟨gb,8,none⟩ = some (.int .i64 a8):=(blk_cell BK.out 8).trans rfl;have x9_:w7.cell? ⟨gb,9,none⟩ = some (.int .i64 a9):=(blk_cell BK.out 9).trans rfl;have x10_:w7.cell? ⟨gb,10,none⟩ = some (.int .i64 a10):=(blk_cell BK.out 10).trans rfl;have x11_:w7.cell? ⟨gb,11,none⟩ = some (.slice A11 s.length c11):=(blk_cell BK.out 11).trans rfl)
  |((with_reducible refine gate_callee (f:=33) rfl ?_);refine gL (some 20) Try.func33 #[.agg #[.int .i64 a8,.int .i64 a9,.int .i64 a10,.slice A11 s.length c11],.int .i64 x1] ?_;(with_reducible refine (laws_markPacked.calls k a8 a9 a10 (fun k_=>f k_ = 11 ∧ k_ < w.heap.size) _ s x1 y1 y2 w0 _ ?side1 ?side2 B4.out).mono ?_);(case side1=>exact HB.out);(case side2=>exact HO11.out);rintro e w8 ⟨rfl,hr,hb,hk⟩;refine⟨_,rfl,?_⟩;have n_:=Kd.R_mono (ok':=fun k_=>f k_ = 11 ∧ k_ < w.heap.size) (Kd.R_tight rfl hr) (fun k_ e_=>HO11.out.1 k_ e_.symm);clear HO11 hr;have HO11:=mk0 n_;clear n_;replace HO3:=mk0 (Kd.R_kept HO3.out hk (fun k_ h_ s_=>(by omega)));replace HO4:=mk0 (Kd.S_kept HO4.out hk (fun k_ h_ s_=>(by omega)));replace HO5:=mk0 (Kd.R_kept HO5.out hk (fun k_ h_ s_=>(by omega)));replace HO7:=mk0 (Kd.R_kept HO7.out hk (fun k_ h_ s_=>(by omega)));replace HO15:=mk0 (Kd.R_kept HO15.out hk (fun k_ h_ s_=>(by omega)));replace BK:=mk0 (blk_kept BK.out hk (by have g_:=GN.out;omega));replace HK:=mk0 (Kept.then_ HK.out hk (fun k_ h_=>.inl (by omega)));replace HB:=mk0 hb;clear hb hk;have x12_:w8.cell? ⟨gb,12,none⟩ = some (.int .i64 a12):=(blk_cell BK.out 12).trans rfl;have x13_:w8.cell? ⟨gb,13,none⟩ = some (.int .i64 a13):=(blk_cell BK.out 13).trans rfl;have x14_:w8.cell? ⟨gb,14,none⟩ = some (.int .i64 a14):=(blk_cell BK.out 14).trans rfl;have x15_:w8.cell? ⟨gb,15,none⟩ = some (.slice A15 i.length c15):=(blk_cell BK.out 15).trans rfl)
  |((with_reducible refine gate_callee (f:=33) rfl ?_);refine gL (some 24) Try.func33 #[.agg #[.int .i64 a12,.int .i64 a13,.int .i64 a14,.slice A15 i.length c15],.int .i64 y1] ?_;(with_reducible refine (laws_markPacked.calls k a12 a13 a14 (fun k_=>f k_ = 15 ∧ k_ < w.heap.size) _ i y1 u1 u2 w0 _ ?side1 ?side2 B5.out).mono ?_);(case side1=>exact HB.out);(case side2=>exact HO15.out);rintro e w9 ⟨rfl,hr,hb,hk⟩;refine⟨_,rfl,?_⟩;have n_:=Kd.R_mono (ok':=fun k_=>f k_ = 15 ∧ k_ < w.heap.size) (Kd.R_tight rfl hr) (fun k_ e_=>HO15.out.1 k_ e_.symm);clear HO15 hr;have HO15:=mk0 n_;clear n_;replace HO3:=mk0 (Kd.R_kept HO3.out hk (fun k_ h_ s_=>(by omega)));replace HO4:=mk0 (Kd.S_kept HO4.out hk (fun k_ h_ s_=>(by omega)));replace HO5:=mk0 (Kd.R_kept HO5.out hk (fun k_ h_ s_=>(by omega)));replace HO7:=mk0 (Kd.R_kept HO7.out hk (fun k_ h_ s_=>(by omega)));replace HO11:=mk0 (Kd.R_kept HO11.out hk (fun k_ h_ s_=>(by omega)));replace BK:=mk0 (blk_kept BK.out hk (by have g_:=GN.out;omega));replace HK:=mk0 (Kept.then_ HK.out hk (fun k_ h_=>.inl (by omega)));replace HB:=mk0 hb;clear hb hk))
 go_ret
 exact⟨eR,⟨Kd.R_mono HO3.out (fun _ _=>trivial),Kd.S_mono HO4.out (fun _ _=>trivial),Kd.R_mono HO5.out (fun _ _=>trivial),Kd.R_mono HO7.out (fun _ _=>trivial),Kd.R_mono HO11.out (fun _ _=>trivial),Kd.R_mono HO15.out (fun _ _=>trivial)⟩,HB.out,HK.out⟩
end Go.Proofs.Ytjfoaiabbmkdpaa.QFnExactFmOf
