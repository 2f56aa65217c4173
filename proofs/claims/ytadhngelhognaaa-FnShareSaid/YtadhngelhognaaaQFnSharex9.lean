-- A walk, made by walk.py, a program of this session's.
import Derived.Test.YtadhngelhognaaaQFnSharex0
namespace Go.Proofs.Ytadhngelhognaaa.QFnShare
open Go.RowKit Go.Proofs.YtadhngelhognaaaW.PrintWords Go.Proofs.YtadhngelhognaaaW.PrintLast Go.Proofs.YtadhngelhognaaaW.PrintMore
attribute [local go_sem] max2_int min2_int max_two min_two max_three min_three max_four min_four   -- for this text's walks alone
set_option linter.unusedVariables false
set_option linter.unusedSimpArgs false
/-! ### impl_commonTable: function 63 -/
mutual
def impl_commonTable.l0 : Nat → List Int → List Int → Int → List (List Int) → Option ((List (List Int)))
 | 0, _, _, _, _ => none
 | k + 1, x0, x1, x6, x11 => if x6 ≥ 0 then (if 0 ≤ (wrap64 ((x1.length : Int) + 1)) then (if (wrap64 ((x1.length : Int) + 1) : Int).toNat ≤ 35184372088832 then (if 0 ≤ x6 then (if x6 < (x11.length : Int) then (impl_commonTable.l1 k x0 x1 x6 (wrap64 ((x1.length : Int) - 1)) (x11.set (x6 : Int).toNat (List.replicate (wrap64 ((x1.length : Int) + 1) : Int).toNat 0))) else (none)) else (none)) else (none)) else (none)) else (some x11)
def impl_commonTable.l1 : Nat → List Int → List Int → Int → Int → List (List Int) → Option ((List (List Int)))
 | 0, _, _, _, _, _ => none
 | k + 1, x0, x1, x6, x7, x11 => if x7 ≥ 0 then (if 0 ≤ x6 then (if x6 < (x0.length : Int) then (if 0 ≤ x7 then (if x7 < (x1.length : Int) then (if (rd x0 x6) = (rd x1 x7) then (if x6 < (x11.length : Int) then (if 0 ≤ (wrap64 (x6 + 1)) then (if (wrap64 (x6 + 1)) < (x11.length : Int) then (if 0 ≤ (wrap64 (x7 + 1)) then (if (wrap64 (x7 + 1)) < ((rd_L4 x11 (wrap64 (x6 + 1))).length : Int) then (if x7 < ((rd_L4 x11 x6).length : Int) then (impl_commonTable.l1 k x0 x1 x6 (wrap64 (x7 - 1)) (x11.set (x6 : Int).toNat ((rd_L4 x11 x6).set (x7 : Int).toNat (wrap64 ((rd (rd_L4 x11 (wrap64 (x6 + 1))) (wrap64 (x7 + 1))) + 1))))) else (none)) else (none)) else (none)) else (none)) else (none)) else (none)) else (if x6 < (x11.length : Int) then (if 0 ≤ (wrap64 (x6 + 1)) then (if (wrap64 (x6 + 1)) < (x11.length : Int) then (if x7 < ((rd_L4 x11 (wrap64 (x6 + 1))).length : Int) then (if 0 ≤ (wrap64 (x7 + 1)) then (if (wrap64 (x7 + 1)) < ((rd_L4 x11 x6).length : Int) then (if x7 < ((rd_L4 x11 x6).length : Int) then (impl_commonTable.l1 k x0 x1 x6 (wrap64 (x7 - 1)) (x11.set (x6 : Int).toNat ((rd_L4 x11 x6).set (x7 : Int).toNat (mx (rd (rd_L4 x11 (wrap64 (x6 + 1))) x7) (rd (rd_L4 x11 x6) (wrap64 (x7 + 1))))))) else (none)) else (none)) else (none)) else (none)) else (none)) else (none)) else (none))) else (none)) else (none)) else (none)) else (none)) else (impl_commonTable.l0 k x0 x1 (wrap64 (x6 - 1)) x11)
end
def impl_commonTable.f (k : Nat) (l0 : List Int) (l1 : List Int) : Option ((List (List Int))) := if 0 ≤ (wrap64 ((l0.length : Int) + 1)) then (if (wrap64 ((l0.length : Int) + 1) : Int).toNat ≤ 11728124029610 then ((some (List.replicate (wrap64 ((l0.length : Int) + 1) : Int).toNat [] : List (List Int))).bind fun y345 => (if 0 ≤ (wrap64 ((l1.length : Int) + 1)) then (if (wrap64 ((l1.length : Int) + 1) : Int).toNat ≤ 35184372088832 then (if 0 ≤ (l0.length : Int) then (if (l0.length : Int) < (y345.length : Int) then (impl_commonTable.l0 k l0 l1 (wrap64 ((l0.length : Int) - 1)) (y345.set ((l0.length : Int) : Int).toNat (List.replicate (wrap64 ((l1.length : Int) + 1) : Int).toNat 0))) else (none)) else (none)) else (none)) else (none))) else (none)) else (none)
def impl_commonTable.T10 : Bool × List (List Nat × List Nat) := (true, [([], []), ([], []), ([0, 1], [0, 1]), ([2], [2]), ([], []), ([], []), ([4, 5], [4, 5]), ([6], [6]), ([3, 7], [3, 7])])
def impl_commonTable.B10 : List Nat := [0, 0, 3, 7, 0, 0, 48, 112, 255]
theorem impl_commonTable.tab10 : rtab .any (opsOf Try.f63 10) = impl_commonTable.T10 := by kernel_rfl
theorem impl_commonTable.bits10 : waitsOk impl_commonTable.T10.2 impl_commonTable.B10 = true := by kernel_rfl
def impl_commonTable.T11 : Bool × List (List Nat × List Nat) := (true, [([], []), ([], []), ([0, 1], [0, 1]), ([2], [2]), ([], []), ([], []), ([], []), ([6], [6]), ([5, 7], [5, 7]), ([8], [8]), ([], []), ([10], [10]), ([9, 11], [9, 11]), ([12], [12]), ([13], [13]), ([3, 4, 0, 1, 2, 3, 4, 5, 6, 7, 8, 9, 10, 11, 12, 13, 14], [3, 4]), ([15, 14, 0, 1, 2, 3, 4, 5, 6, 7, 8, 9, 10, 11, 12, 13, 14], [14, 15])])
def impl_commonTable.B11 : List Nat := [0, 0, 3, 7, 0, 0, 0, 64, 224, 480, 0, 1024, 4064, 8160, 16352, 32767, 65535]
theorem impl_commonTable.tab11 : rtab .any (opsOf Try.f63 11) = impl_commonTable.T11 := by kernel_rfl
theorem impl_commonTable.bits11 : waitsOk impl_commonTable.T11.2 impl_commonTable.B11 = true := by kernel_rfl
def impl_commonTable.T12 : Bool × List (List Nat × List Nat) := (true, [([], []), ([], []), ([0, 1], [0, 1]), ([2], [2]), ([], []), ([], []), ([], []), ([6], [6]), ([5, 7], [5, 7]), ([8], [8]), ([], []), ([9, 10], [9, 10]), ([11], [11]), ([], []), ([], []), ([13, 14], [13, 14]), ([15], [15]), ([], []), ([17], [17]), ([16, 18], [16, 18]), ([19], [19]), ([12, 20], [12, 20]), ([3, 4, 0, 1, 2, 3, 4, 5, 6, 7, 8, 9, 10, 11, 12, 13, 14, 15, 16, 17, 18, 19, 20, 21], [3, 4]), ([22, 21, 0, 1, 2, 3, 4, 5, 6, 7, 8, 9, 10, 11, 12, 13, 14, 15, 16, 17, 18, 19, 20, 21], [21, 22])])
def impl_commonTable.B12 : List Nat := [0, 0, 3, 7, 0, 0, 0, 64, 224, 480, 0, 2016, 4064, 0, 0, 24576, 57344, 0, 131072, 516096, 1040384, 2097120, 4194303, 8388607]
theorem impl_commonTable.tab12 : rtab .any (opsOf Try.f63 12) = impl_commonTable.T12 := by kernel_rfl
theorem impl_commonTable.bits12 : waitsOk impl_commonTable.T12.2 impl_commonTable.B12 = true := by kernel_rfl
set_option maxHeartbeats 8000000 in
set_option maxRecDepth 100000 in
theorem impl_commonTable.calls (k : Nat) (A0 : Option Addr) (c0 : Nat) (l0 : List Int) (A1 : Option Addr) (c1 : Nat) (l1 : List Int) (r : List (List Int)) (w : World) (hr0 : Kd.C (Kd.int .i64) w A0 l0.length l0) (hc0 : l0.length ≤ c0) (hr1 : Kd.C (Kd.int .i64) w A1 l1.length l1) (hc1 : l1.length ≤ c1) (h : impl_commonTable.f k l0 l1 = some r) :
  Calls Try.prog 63 #[.slice A0 l0.length c0, .slice A1 l1.length c1] w fun e w' => ∃ v0_ : Value, e = .returned (v0_) ∧ Kd.S (Kd.slice 3 (Kd.int .i64)) 45 w' w.heap.size (fun _ => True) v0_ r ∧ Below w.heap.size w w' := by
 have HR0:=mk0 hr0
 have HC0:=mk0 hc0
 clear hr0 hc0
 have HR1:=mk0 hr1
 have HC1:=mk0 hc1
 clear hr1 hc1
 have HB:=mk0 (Below.refl w.heap.size w)
 have H:(if 0 ≤ (wrap64 ((l0.length:Int) + 1)) then (if (wrap64 ((l0.length:Int) + 1):Int).toNat ≤ 11728124029610 then ((some (List.replicate (wrap64 ((l0.length:Int) + 1):Int).toNat []:List (List Int))).bind fun y345=>(if 0 ≤ (wrap64 ((l1.length:Int) + 1)) then (if (wrap64 ((l1.length:Int) + 1):Int).toNat ≤ 35184372088832 then (if 0 ≤ (l0.length:Int) then (if (l0.length:Int) < (y345.length:Int) then (impl_commonTable.l0 k l0 l1 (wrap64 ((l0.length:Int) - 1)) (y345.set ((l0.length:Int):Int).toNat (List.replicate (wrap64 ((l1.length:Int) + 1):Int).toNat 0))) else (none)) else (none)) else (none)) else (none))) else (none)) else (none)) = some r:=h
 clear h
 obtain⟨ji3,hji3⟩:∃ j_:Int,(wrap64 ((l0.length:Int) + 1)) = j_:=⟨_,rfl⟩
 first|rw [hji3] at H|simp only [hji3] at H
 have hji3w:(IntKind.i64.wrap ((l0.length:Int) + 1)) = ji3:=(i64_w _).trans hji3
 by_cases c4:0 ≤ (ji3)
 rotate_left
 ·rw [if_neg c4] at H
  exact nn H
 rw [if_pos c4] at H
 have c4b0:=eq_true c4
 have c4b1:decide (0 ≤ (ji3)) = true:=decide_eq_true c4
 clear c4
 by_cases c5:(ji3:Int).toNat ≤ 11728124029610
 rotate_left
 ·rw [if_neg c5] at H
  exact nn H
 rw [if_pos c5] at H
 have c5b0:=eq_true c5
 have c5b1:decide ((ji3:Int).toNat ≤ 11728124029610) = true:=decide_eq_true c5
 clear c5
 obtain⟨y345,hy345⟩:∃ y_:List (List Int),y_ = (List.replicate (ji3:Int).toNat []):=⟨_,rfl⟩
 first|(with_reducible replace H:=yB hy345 H)|rw [← hy345] at H|skip
 have Ny345:=mk0 hy345
 clear hy345
 obtain⟨ji6,hji6⟩:∃ j_:Int,(wrap64 ((l1.length:Int) + 1)) = j_:=⟨_,rfl⟩
 first|rw [hji6] at H|simp only [hji6] at H
 have hji6w:(IntKind.i64.wrap ((l1.length:Int) + 1)) = ji6:=(i64_w _).trans hji6
 by_cases c7:0 ≤ (ji6)
 rotate_left
 ·rw [if_neg c7] at H
  exact nn H
 rw [if_pos c7] at H
 have c7b0:=eq_true c7
 have c7b1:decide (0 ≤ (ji6)) = true:=decide_eq_true c7
 clear c7
 by_cases c8:(ji6:Int).toNat ≤ 35184372088832
 rotate_left
 ·rw [if_neg c8] at H
  exact nn H
 rw [if_pos c8] at H
 have c8b0:=eq_true c8
 have c8b1:decide ((ji6:Int).toNat ≤ 35184372088832) = true:=decide_eq_true c8
 clear c8
 obtain⟨y348,hy348⟩:∃ y_:List Int,y_ = (List.replicate (ji6:Int).toNat 0):=⟨_,rfl⟩
 first|(with_reducible replace H:=yB hy348 H)|rw [← hy348] at H|skip
 have Ny348:=mk0 hy348
 clear hy348
 by_cases c9:0 ≤ (l0.length:Int)
 rotate_left
 ·rw [if_neg c9] at H
  exact nn H
 rw [if_pos c9] at H
 have c9b0:decide (0 ≤ (l0.length:Int)) = true:=decide_eq_true c9
 (try simp only [hl11_1] at c9b0)
 (try simp only [hl11_2] at c9b0)
 (try simp only [hl358_0] at c9b0)
 (try simp only [hl359_0] at c9b0)
 (try simp only [hl364_0] at c9b0)
 (try simp only [hl365_0] at c9b0)
 (try simp only [hl367_0] at c9b0)
 have c9b1:decide (0 ≤ l0.length) = true:=decide_eq_true (by omega)
 (try simp only [hl11_1] at c9b1)
 (try simp only [hl11_2] at c9b1)
 (try simp only [hl358_0] at c9b1)
 (try simp only [hl359_0] at c9b1)
 (try simp only [hl364_0] at c9b1)
 (try simp only [hl365_0] at c9b1)
 (try simp only [hl367_0] at c9b1)
 clear c9
 by_cases c10:(l0.length:Int) < (y345.length:Int)
 rotate_left
 ·rw [if_neg c10] at H
  exact nn H
 rw [if_pos c10] at H
 have c10b0:decide ((l0.length:Int) < (y345.length:Int)) = true:=decide_eq_true c10
 (try simp only [hl11_1] at c10b0)
 (try simp only [hl11_2] at c10b0)
 (try simp only [hl358_0] at c10b0)
 (try simp only [hl359_0] at c10b0)
 (try simp only [hl364_0] at c10b0)
 (try simp only [hl365_0] at c10b0)
 (try simp only [hl367_0] at c10b0)
 have c10b1:decide (l0.length < y345.length) = true:=decide_eq_true (Int.ofNat_lt.mp c10)
 (try simp only [hl11_1] at c10b1)
 (try simp only [hl11_2] at c10b1)
 (try simp only [hl358_0] at c10b1)
 (try simp only [hl359_0] at c10b1)
 (try simp only [hl364_0] at c10b1)
 (try simp only [hl365_0] at c10b1)
 (try simp only [hl367_0] at c10b1)
 clear c10
 obtain⟨y351,hy351⟩:∃ y_:List (List Int),y_ = (y345.set ((l0.length:Int):Int).toNat y348):=⟨_,rfl⟩
 first|(with_reducible replace H:=yB hy351 H)|rw [← hy351] at H|skip
 have Ny351:=mk0 hy351
 clear hy351
 have H':=mk0 H
 clear H
 go_enter Try.func63,Try.ntmps63
 go_wp2_with (first|((with_reducible refine gate_dst (N:=11) rfl ?_);refine Kd.S_make (Kd.slice 3 (Kd.int .i64)) _ 45 rfl (N:=11) rfl 73 _ _ rfl ji3 rfl rfl Try.underlying73 (.slice none 0 0) 24 info45 rfl (by decide) (by omega) [] (ok:=fun _=>True) (okp:=fun _=>True) ⟨_,rfl,Kd.R_nil _ _ _ _ _⟩ (fun _ hk=>hk) trivial (oD) (Nat.le_trans (Nat.mul_le_mul_right _ (oD:ji3.toNat ≤ 11728124029610)) (by omega)) (Below.refl _ _) (Nat.le_refl _) ?_;intro v346 w12 ho13 hb hg_ hnew_;clear hg_ hnew_;(first|rw [← Ny345.out] at ho13|(simp only [Int.reduceToNat] at ho13;rw [← Ny345.out] at ho13));have HO347:=mk0 (Kd.S_lower ho13 (kZ HB.out));replace HB:=mk0 (kS HB.out hb);clear hb ho13)|((with_reducible refine gate_dst (N:=18) rfl ?_);refine Kd.R_make (Kd.int .i64) _ 3 rfl (N:=18) rfl 45 _ _ rfl ji6 rfl rfl Try.underlying45 (.int .i64 0) 8 info3 rfl (by decide) (by omega) 0 (ok:=fun _=>True) (okp:=fun _=>True) rfl (fun _ hk=>hk) trivial (oD) (Nat.le_trans (Nat.mul_le_mul_right _ (oD:ji6.toNat ≤ 35184372088832)) (by omega)) (Below.refl _ _) (Nat.le_refl _) ?_;intro v349 w14 ho15 hb hg_ hnew_;clear hg_ hnew_;(first|rw [← Ny348.out] at ho15|(simp only [Int.reduceToNat] at ho15;rw [← Ny348.out] at ho15));replace HO347:=mk0 (Kd.S_elder' (rS HO347.out) (Kd.R_base ho15) hb);have HO350:=mk0 (Kd.R_lower ho15 (kZ HB.out));replace HB:=mk0 (kS HB.out hb);clear hb ho15;have p11:0 ≤ ((l0.length:Int):Int):=oD;have q11:((l0.length:Int):Int) < ((y345.length:Int):Int):=oD;obtain⟨go11,co11,eo11,gb11,gl11,cl11,HG11⟩:=Kd.S_form HO347.out (by omega);(first|cases eo11|(injection eo11 with ea_ en_ ec_;(first|subst ea_|(injection ea_ with ea_;subst ea_));subst ec_;clear en_));have GB11:=mk0 gb11;have GG11:=mk0 HG11;clear gb11 gl11 HG11;obtain⟨_,ce11,hcl11,hM11,hcc11,hfr11,_,_⟩:=Kd.S_elem HO347.out [] ((l0.length:Int):Int) p11 q11;obtain⟨ve11_0,rfl,ge11_0⟩:=hM11;have hx11_0:=hcc11 0 _ rfl;have hf11_0:=hfr11 0;(try simp only [show ((Kd.slice 3 (Kd.int .i64))).sz = 1 from rfl,Nat.mul_one,Nat.add_zero] at hx11_0);(try simp only [show ((Kd.slice 3 (Kd.int .i64))).sz = 1 from rfl,Nat.mul_one,Nat.add_zero] at hf11_0);clear hcl11 hcc11 hfr11;(try clear hM11);replace p11:=eq_true p11;replace q11:=eq_true q11;have n_:=mk0 (Kd.S_mono (ok':=(fun k_=>some k_ ≠ (v349:Value).ownBlock)) HO347.out (fun k_ hk=>hk.2));clear HO347;have HO347:=n_;clear n_;have HX16:=mk0 (show Kd.S (Kd.slice 3 (Kd.int .i64)) 45 w14 w.heap.size (fun k_=>((fun _=>True)) k_ ∧ ¬ ((fun k_=>some k_ = (v349:Value).ownBlock)) k_) (.slice (some ⟨go11,0,none⟩) y345.length co11) y345 from (by (with_reducible repeat (first|apply aS|apply nS|apply dS));exact Kd.S_mono HO347.out (fun k_ hk=>⟨trivial,fun e_=>hk e_⟩)));obtain⟨oki16,ce16,hcl16,hM16,hcc16,hfr16,hoki16,hH16⟩:=Kd.S_elem HX16.out [] ((l0.length:Int):Int) (oD) (by have h_:((l0.length:Int):Int) < ((y345.length:Int):Int):=oD;first|exact h_|(have e_:=(Kd.S_reads' HO347.out).1;omega)|simpa using h_);obtain⟨ve16_0,rfl,ge16_0⟩:=hM16;have HP16:=Kd.S_seg hH16 (oD) (by have h_:((l0.length:Int):Int) < ((y345.length:Int):Int):=oD;first|exact h_|(have e_:=(Kd.S_reads' HO347.out).1;omega)|simpa using h_) (seg:=[v349]) (j:=0) (show 1 ≤ 1 from by decide) (x':=y348) (Kd.M_row (Kd.R_mono (Kd.R_tight rfl (Kd.R_mono (ok':=fun k_=>((fun _=>True)) k_ ∧ k_ ≠ go11) (Kd.R_apart' (HO350.out) (Kd.S_typed HO347.out) (by decide)) (fun k_ hk=>⟨trivial,fun e_=>(hk.2) (by rw [e_];rfl)⟩))) (fun _ h_=>Or.inr (h_)))) (fun _ hk=>hk) (fun k_ hk_=>((Kd.R_mono (ok':=fun k_=>((fun _=>True)) k_ ∧ k_ ≠ go11) (Kd.R_apart' (HO350.out) (Kd.S_typed HO347.out) (by decide)) (fun k_ hk=>⟨trivial,fun e_=>(hk.2) (by rw [e_];rfl)⟩))).1 k_ hk_.symm);have hx16_0:=hcc16 0 _ rfl;(try simp only [show ((Kd.slice 3 (Kd.int .i64))).sz = 1 from rfl,Nat.mul_one,Nat.add_zero] at hx16_0);have hf16_0:=hfr16 0;(try simp only [show ((Kd.slice 3 (Kd.int .i64))).sz = 1 from rfl,Nat.mul_one,Nat.add_zero] at hf16_0);clear hcl16 hcc16 hfr16 hoki16 hH16;(try clear hM16);(try simp only [show ((Kd.slice 3 (Kd.int .i64))).sz = 1 from rfl,Nat.mul_one,Nat.add_zero] at HP16))|((with_reducible refine gate_store (t:=45) (p:=19) rfl ?_);refine store_event (t:=45) (p:=19) (v:=?vo_w17) (w1:=(w14.setCell ⟨go11,((l0.length:Int):Int).toNat,none⟩ (v349))) ?hg ?ho ?hn ?hr ?_;(case ho=>rfl);(case hg=>rfl);(case hn=>rfl);(case hr=>first|(go_simp;done)|(go_simp;rfl)|(obtain⟨A0_,c0_,e0_⟩:∃ A c,v349 = Value.slice A (y348).length c:=(by first|exact Kd.R_slice HO350.out|exact Kd.S_slice HO350.out|exact Kd.N_slice HO350.out|exact Kd.V_slice HO350.out);rw [e0_];(first|(go_simp;done)|(go_simp;rfl)|(simp only [Int.toNat_natCast] at *;go_simp;done)|(simp only [Int.toNat_natCast] at *;go_simp;rfl))));intro w17 hw;have hg:w14.grownBy w17 (some go11):=(by rw [hw];exact HP16.2);have hp_:Kd.S (Kd.slice 3 (Kd.int .i64)) 45 w17 w.heap.size (fun _=>True) (.slice (some ⟨go11,0,none⟩) y345.length co11) y351:=(by rw [hw,Ny351.out];exact HP16.1);clear HP16;replace HO347:=mk0 (hp_);replace HB:=mk0 ((by rw [hw];exact sZ (HB.out) GB11.out:Below w.heap.size w w17));clear HO350 hg hw hp_))
 go_loopg [6] k (fun kq v6 w'=>∃ (x6_1:Int) (x11_1:List (List Int)),v6 = .int .i64 x6_1 ∧ Aside0 (impl_commonTable.l0 kq l0 l1 x6_1 x11_1 = some r) ∧ Aside0 (kq ≤ k) ∧ Aside0 (Kd.S (Kd.slice 3 (Kd.int .i64)) 45 w' w.heap.size (fun _=>True) (.slice (some ⟨go11,0,none⟩) y345.length co11) x11_1) ∧ Aside0 (Below w.heap.size w w'))
 case atStart=>exact⟨(wrap64 ((l0.length:Int) - 1)),(y351),eS,H',⟨Nat.le_refl _⟩,⟨rS HO347.out⟩,⟨kB HB.out⟩⟩
 case round =>
  clear H'
  try clear c1
  try clear p1
  try clear q1
  try clear hx1
  try clear p2
  try clear c4
  try clear c4b0
  try clear c4b1
  try clear c5
  try clear c5b0
  try clear c5b1
  try clear c6
  try clear p6
  try clear c7
  try clear c7b0
  try clear c7b1
  try clear c8
  try clear c8b0
  try clear c8b1
  try clear c9
  try clear c9b0
  try clear c9b1
  try clear c10
  try clear c10b0
  try clear c10b1
  try clear c11
  try clear p11
  try clear q11
  try clear hx11
  try clear hf11
  try clear c16
  try clear hx16
  try clear hf16
  try clear hx11_0
  try clear hx16_0
  try clear p11
  try clear q11
  obtain⟨x6_1,x11_1,rfl,HA,HK1,HO_11,HB⟩:=hrel
  have hl11_1:=(Kd.S_reads' HO_11.out).1
  rw [hl11_1] at HO_11
  (try simp only [hl11_1])
  cases gk with
  | zero=>exact absurd HA.out (by simp [impl_commonTable.l0])
  | succ k1 =>
   have H:=HA.out
   clear HA
   simp only [impl_commonTable.l0] at H
   by_cases c18:x6_1 ≥ 0
   rotate_left
   ·rw [if_neg c18] at H
    have c18b0:decide (0 ≤ x6_1) = false:=decide_eq_false c18
    clear c18
    obtain rfl:=Option.some.inj H
    go_wp2
    go_ret
    exact⟨_,by first|rfl|(simp [errW_none,errW_some] <;> rfl)|(simp only [← hji3, ← hji6];first|rfl|(simp [errW_none,errW_some] <;> rfl))|(simp [*,errW_none,errW_some] <;> rfl),rS HO_11.out,kB HB.out⟩
   rw [if_pos c18] at H
   have c18b0:decide (0 ≤ x6_1) = true:=decide_eq_true c18
   clear c18
   try clear hji6w
   try clear hji6
   obtain⟨ji19,hji19⟩:∃ j_:Int,(wrap64 ((l1.length:Int) + 1)) = j_:=⟨_,rfl⟩
   first|rw [hji19] at H|simp only [hji19] at H
   have hji19w:(IntKind.i64.wrap ((l1.length:Int) + 1)) = ji19:=(i64_w _).trans hji19
   by_cases c20:0 ≤ (ji19)
   rotate_left
   ·rw [if_neg c20] at H
    exact nn H
   rw [if_pos c20] at H
   have c20b0:=eq_true c20
   have c20b1:decide (0 ≤ (ji19)) = true:=decide_eq_true c20
   clear c20
   by_cases c21:(ji19:Int).toNat ≤ 35184372088832
   rotate_left
   ·rw [if_neg c21] at H
    exact nn H
   rw [if_pos c21] at H
   have c21b0:=eq_true c21
   have c21b1:decide ((ji19:Int).toNat ≤ 35184372088832) = true:=decide_eq_true c21
   clear c21
   obtain⟨y352,hy352⟩:∃ y_:List Int,y_ = (List.replicate (ji19:Int).toNat 0):=⟨_,rfl⟩
   first|(with_reducible replace H:=yB hy352 H)|rw [← hy352] at H|skip
   have Ny352:=mk0 hy352
   clear hy352
   by_cases c22:0 ≤ x6_1
   rotate_left
   ·rw [if_neg c22] at H
    exact nn H
   rw [if_pos c22] at H
   have c22b0:decide (0 ≤ x6_1) = true:=decide_eq_true c22
   clear c22
   by_cases c23:x6_1 < (x11_1.length:Int)
   rotate_left
   ·rw [if_neg c23] at H
    exact nn H
   rw [if_pos c23] at H
   have c23b0:decide (x6_1 < (x11_1.length:Int)) = true:=decide_eq_true c23
   (try simp only [hl11_1] at c23b0)
   (try simp only [hl11_2] at c23b0)
   (try simp only [hl358_0] at c23b0)
   (try simp only [hl359_0] at c23b0)
   (try simp only [hl364_0] at c23b0)
   (try simp only [hl365_0] at c23b0)
   (try simp only [hl367_0] at c23b0)
   clear c23
   obtain⟨y355,hy355⟩:∃ y_:List (List Int),y_ = (x11_1.set (x6_1:Int).toNat y352):=⟨_,rfl⟩
   first|(with_reducible replace H:=yB hy355 H)|rw [← hy355] at H|skip
   have Ny355:=mk0 hy355
   clear hy355
   have H':=mk0 H
   clear H
   go_wp2_with (first|((with_reducible refine gate_dst (N:=32) rfl ?_);refine Kd.R_make (Kd.int .i64) _ 3 rfl (N:=32) rfl 45 _ _ rfl ji19 rfl rfl Try.underlying45 (.int .i64 0) 8 info3 rfl (by decide) (by omega) 0 (ok:=fun _=>True) (okp:=fun _=>True) rfl (fun _ hk=>hk) trivial (oD) (Nat.le_trans (Nat.mul_le_mul_right _ (oD:ji19.toNat ≤ 35184372088832)) (by omega)) (Below.refl _ _) (Nat.le_refl _) ?_;intro v353 w25 ho26 hb hg_ hnew_;clear hg_ hnew_;(first|rw [← Ny352.out] at ho26|(simp only [Int.reduceToNat] at ho26;rw [← Ny352.out] at ho26));replace HO_11:=mk0 (Kd.S_elder' (rS HO_11.out) (Kd.R_base ho26) hb);have HO354:=mk0 (Kd.R_lower ho26 (kZ HB.out));replace HB:=mk0 (kS HB.out hb);clear hb ho26;have p24:0 ≤ (x6_1:Int):=oD;have q24:(x6_1:Int) < ((x11_1.length:Int):Int):=oD;obtain⟨_,ce24,hcl24,hM24,hcc24,hfr24,_,_⟩:=Kd.S_elem HO_11.out [] (x6_1:Int) p24 q24;obtain⟨ve24_0,rfl,ge24_0⟩:=hM24;have hx24_0:=hcc24 0 _ rfl;have hf24_0:=hfr24 0;(try simp only [show ((Kd.slice 3 (Kd.int .i64))).sz = 1 from rfl,Nat.mul_one,Nat.add_zero] at hx24_0);(try simp only [show ((Kd.slice 3 (Kd.int .i64))).sz = 1 from rfl,Nat.mul_one,Nat.add_zero] at hf24_0);clear hcl24 hcc24 hfr24;(try clear hM24);replace p24:=eq_true p24;replace q24:=eq_true q24;have n_:=mk0 (Kd.S_mono (ok':=(fun k_=>some k_ ≠ (v353:Value).ownBlock)) HO_11.out (fun k_ hk=>hk.2));clear HO_11;have HO_11:=n_;clear n_;have HX27:=mk0 (show Kd.S (Kd.slice 3 (Kd.int .i64)) 45 w25 w.heap.size (fun k_=>((fun _=>True)) k_ ∧ ¬ ((fun k_=>some k_ = (v353:Value).ownBlock)) k_) (.slice (some ⟨go11,0,none⟩) x11_1.length co11) x11_1 from (by (with_reducible repeat (first|apply aS|apply nS|apply dS));exact Kd.S_mono HO_11.out (fun k_ hk=>⟨trivial,fun e_=>hk e_⟩)));obtain⟨oki27,ce27,hcl27,hM27,hcc27,hfr27,hoki27,hH27⟩:=Kd.S_elem HX27.out [] (x6_1:Int) (oD) (by have h_:(x6_1:Int) < ((x11_1.length:Int):Int):=oD;first|exact h_|(have e_:=(Kd.S_reads' HO_11.out).1;omega)|simpa using h_);obtain⟨ve27_0,rfl,ge27_0⟩:=hM27;have HP27:=Kd.S_seg hH27 (oD) (by have h_:(x6_1:Int) < ((x11_1.length:Int):Int):=oD;first|exact h_|(have e_:=(Kd.S_reads' HO_11.out).1;omega)|simpa using h_) (seg:=[v353]) (j:=0) (show 1 ≤ 1 from by decide) (x':=y352) (Kd.M_row (Kd.R_mono (Kd.R_tight rfl (Kd.R_mono (ok':=fun k_=>((fun _=>True)) k_ ∧ k_ ≠ go11) (Kd.R_apart' (HO354.out) (Kd.S_typed HO_11.out) (by decide)) (fun k_ hk=>⟨trivial,fun e_=>(hk.2) (by rw [e_];rfl)⟩))) (fun _ h_=>Or.inr (h_)))) (fun _ hk=>hk) (fun k_ hk_=>((Kd.R_mono (ok':=fun k_=>((fun _=>True)) k_ ∧ k_ ≠ go11) (Kd.R_apart' (HO354.out) (Kd.S_typed HO_11.out) (by decide)) (fun k_ hk=>⟨trivial,fun e_=>(hk.2) (by rw [e_];rfl)⟩))).1 k_ hk_.symm);have hx27_0:=hcc27 0 _ rfl;(try simp only [show ((Kd.slice 3 (Kd.int .i64))).sz = 1 from rfl,Nat.mul_one,Nat.add_zero] at hx27_0);have hf27_0:=hfr27 0;(try simp only [show ((Kd.slice 3 (Kd.int .i64))).sz = 1 from rfl,Nat.mul_one,Nat.add_zero] at hf27_0);clear hcl27 hcc27 hfr27 hoki27 hH27;(try clear hM27);(try simp only [show ((Kd.slice 3 (Kd.int .i64))).sz = 1 from rfl,Nat.mul_one,Nat.add_zero] at HP27))|((with_reducible refine gate_store (t:=45) (p:=33) rfl ?_);refine store_event (t:=45) (p:=33) (v:=?vo_w28) (w1:=(w25.setCell ⟨go11,(x6_1:Int).toNat,none⟩ (v353))) ?hg ?ho ?hn ?hr ?_;(case ho=>rfl);(case hg=>rfl);(case hn=>rfl);(case hr=>first|(go_simp;done)|(go_simp;rfl)|(obtain⟨A0_,c0_,e0_⟩:∃ A c,v353 = Value.slice A (y352).length c:=(by first|exact Kd.R_slice HO354.out|exact Kd.S_slice HO354.out|exact Kd.N_slice HO354.out|exact Kd.V_slice HO354.out);rw [e0_];(first|(go_simp;done)|(go_simp;rfl)|(simp only [Int.toNat_natCast] at *;go_simp;done)|(simp only [Int.toNat_natCast] at *;go_simp;rfl))));intro w28 hw;have hg:w25.grownBy w28 (some go11):=(by rw [hw];exact HP27.2);have hp_:Kd.S (Kd.slice 3 (Kd.int .i64)) 45 w28 w.heap.size (fun _=>True) (.slice (some ⟨go11,0,none⟩) x11_1.length co11) y355:=(by rw [hw,Ny355.out];exact HP27.1);clear HP27;replace HO_11:=mk0 (hp_);replace HB:=mk0 ((by rw [hw];exact sZ (HB.out) GB11.out:Below w.heap.size w w28));clear HO354 hg hw hp_))
   go_loopg [7] k1 (fun kq v7 w'=>∃ (x7_2:Int) (x11_2:List (List Int)),v7 = .int .i64 x7_2 ∧ Aside0 (impl_commonTable.l1 kq l0 l1 x6_1 x7_2 x11_2 = some r) ∧ Aside0 (kq ≤ k1) ∧ Aside0 (Kd.S (Kd.slice 3 (Kd.int .i64)) 45 w' w.heap.size (fun _=>True) (.slice (some ⟨go11,0,none⟩) x11_1.length co11) x11_2) ∧ Aside0 (Below w.heap.size w w'))
   case atStart=>exact⟨(wrap64 ((l1.length:Int) - 1)),(y355),eS,H',⟨Nat.le_refl _⟩,⟨by (try simp only [hl11_1]);(with_reducible repeat (first|apply aS|apply nS|apply dS));exact HO_11.out⟩,⟨kB HB.out⟩⟩
   case round =>
    clear H'
    try clear c1
    try clear p1
    try clear q1
    try clear hx1
    try clear c2
    try clear p2
    try clear q2
    try clear hx2
    try clear hf2
    try clear c4
    try clear c4b0
    try clear c4b1
    try clear c5
    try clear c5b0
    try clear c5b1
    try clear c6
    try clear p6
    try clear c7
    try clear c7b0
    try clear c7b1
    try clear c8
    try clear c8b0
    try clear c8b1
    try clear c9
    try clear c9b0
    try clear c9b1
    try clear c10
    try clear c10b0
    try clear c10b1
    try clear c11
    try clear p11
    try clear q11
    try clear hx11
    try clear hf11
    try clear c16
    try clear hx16
    try clear hf16
    try clear c18
    try clear c18b0
    try clear c20
    try clear c20b0
    try clear c20b1
    try clear c21
    try clear c21b0
    try clear c21b1
    try clear c22
    try clear c22b0
    try clear c23
    try clear c23b0
    try clear c24
    try clear p24
    try clear q24
    try clear hx24
    try clear hf24
    try clear c27
    try clear hx27
    try clear hf27
    try clear hx11_0
    try clear hx16_0
    try clear hx24_0
    try clear hx27_0
    try clear p1
    try clear p11
    try clear p2
    try clear p24
    try clear p6
    try clear q1
    try clear q11
    try clear q24
    obtain⟨x7_2,x11_2,rfl,HA,HK2,HO_11,HB⟩:=hrel
    have hl11_2:=(Kd.S_reads' HO_11.out).1
    rw [hl11_2] at HO_11
    (try simp only [hl11_2])
    cases gk with
    | zero=>exact absurd HA.out (by simp [impl_commonTable.l1])
    | succ k2 =>
     have H:=HA.out
     clear HA
     simp only [impl_commonTable.l1] at H
     by_cases c29:x7_2 ≥ 0
     rotate_left
     ·rw [if_neg c29] at H
      have c29b0:decide (0 ≤ x7_2) = false:=decide_eq_false c29
      clear c29
      have H':=mk0 H
      clear H
      go_wp2
      (try simp only [← hl11_1, ← hl11_2])
      go_roundg k2
      case measure=>have:=HK1.out;have:=HK2.out;omega
      case rel=>exact⟨(wrap64 (x6_1 - 1)),(x11_2),eS,H',⟨by have:=HK1.out;have:=HK2.out;omega⟩,⟨by (try simp only [hl11_1]);(try simp only [hl11_2]);(with_reducible repeat (first|apply aS|apply nS|apply dS));exact HO_11.out⟩,⟨kB HB.out⟩⟩
     rw [if_pos c29] at H
     have c29b0:decide (0 ≤ x7_2) = true:=decide_eq_true c29
     clear c29
     by_cases c30:0 ≤ x6_1
     rotate_left
     ·rw [if_neg c30] at H
      exact nn H
     rw [if_pos c30] at H
     have c30b0:decide (0 ≤ x6_1) = true:=decide_eq_true c30
     clear c30
     by_cases c31:x6_1 < (l0.length:Int)
     rotate_left
     ·rw [if_neg c31] at H
      exact nn H
     rw [if_pos c31] at H
     have c31b0:decide (x6_1 < (l0.length:Int)) = true:=decide_eq_true c31
     (try simp only [hl11_1] at c31b0)
     (try simp only [hl11_2] at c31b0)
     (try simp only [hl358_0] at c31b0)
     (try simp only [hl359_0] at c31b0)
     (try simp only [hl364_0] at c31b0)
     (try simp only [hl365_0] at c31b0)
     (try simp only [hl367_0] at c31b0)
     clear c31
     by_cases c32:0 ≤ x7_2
     rotate_left
     ·rw [if_neg c32] at H
      exact nn H
     rw [if_pos c32] at H
     have c32b0:decide (0 ≤ x7_2) = true:=decide_eq_true c32
     clear c32
     by_cases c33:x7_2 < (l1.length:Int)
     rotate_left
     ·rw [if_neg c33] at H
      exact nn H
     rw [if_pos c33] at H
     have c33b0:decide (x7_2 < (l1.length:Int)) = true:=decide_eq_true c33
     (try simp only [hl11_1] at c33b0)
     (try simp only [hl11_2] at c33b0)
     (try simp only [hl358_0] at c33b0)
     (try simp only [hl359_0] at c33b0)
     (try simp only [hl364_0] at c33b0)
     (try simp only [hl365_0] at c33b0)
     (try simp only [hl367_0] at c33b0)
     clear c33
     by_cases c34:(rd l0 x6_1) = (rd l1 x7_2)
     ·rw [if_pos c34] at H
      have c34b0:((rd l0 x6_1) == (rd l1 x7_2)) = true:=beq_iff_eq.mpr c34
      have c34b1:((rd l0 x6_1) != (rd l1 x7_2)) = false:=bne_eq_false_iff_eq.mpr c34
      clear c34
      by_cases c35:x6_1 < (x11_2.length:Int)
      rotate_left
      ·rw [if_neg c35] at H
       exact nn H
      rw [if_pos c35] at H
      have c35b0:decide (x6_1 < (x11_2.length:Int)) = true:=decide_eq_true c35
      (try simp only [hl11_1] at c35b0)
      (try simp only [hl11_2] at c35b0)
      (try simp only [hl358_0] at c35b0)
      (try simp only [hl359_0] at c35b0)
      (try simp only [hl364_0] at c35b0)
      (try simp only [hl365_0] at c35b0)
      (try simp only [hl367_0] at c35b0)
      clear c35
      obtain⟨ji36,hji36⟩:∃ j_:Int,(wrap64 (x6_1 + 1)) = j_:=⟨_,rfl⟩
      first|rw [hji36] at H|simp only [hji36] at H
      have hji36w:(IntKind.i64.wrap (x6_1 + 1)) = ji36:=(i64_w _).trans hji36
      by_cases c37:0 ≤ (ji36)
      rotate_left
      ·rw [if_neg c37] at H
       exact nn H
      rw [if_pos c37] at H
      have c37b0:decide (0 ≤ (ji36)) = true:=decide_eq_true c37
      clear c37
      by_cases c38:(ji36) < (x11_2.length:Int)
      rotate_left
      ·rw [if_neg c38] at H
       exact nn H
      rw [if_pos c38] at H
      have c38b0:decide ((ji36) < (x11_2.length:Int)) = true:=decide_eq_true c38
      (try simp only [hl11_1] at c38b0)
      (try simp only [hl11_2] at c38b0)
      (try simp only [hl358_0] at c38b0)
      (try simp only [hl359_0] at c38b0)
      (try simp only [hl364_0] at c38b0)
      (try simp only [hl365_0] at c38b0)
      (try simp only [hl367_0] at c38b0)
      clear c38
      obtain⟨ji39,hji39⟩:∃ j_:Int,(wrap64 (x7_2 + 1)) = j_:=⟨_,rfl⟩
      first|rw [hji39] at H|simp only [hji39] at H
      have hji39w:(IntKind.i64.wrap (x7_2 + 1)) = ji39:=(i64_w _).trans hji39
      by_cases c40:0 ≤ (ji39)
      rotate_left
      ·rw [if_neg c40] at H
       exact nn H
      rw [if_pos c40] at H
      have c40b0:decide (0 ≤ (ji39)) = true:=decide_eq_true c40
      clear c40
      by_cases c41:(ji39) < ((rd_L4 x11_2 (ji36)).length:Int)
      rotate_left
      ·rw [if_neg c41] at H
       exact nn H
      rw [if_pos c41] at H
      have c41b0:decide ((ji39) < ((rd_L4 x11_2 (ji36)).length:Int)) = true:=decide_eq_true c41
      (try simp only [hl11_1] at c41b0)
      (try simp only [hl11_2] at c41b0)
      (try simp only [hl358_0] at c41b0)
      (try simp only [hl359_0] at c41b0)
      (try simp only [hl364_0] at c41b0)
      (try simp only [hl365_0] at c41b0)
      (try simp only [hl367_0] at c41b0)
      clear c41
      by_cases c42:x7_2 < ((rd_L4 x11_2 x6_1).length:Int)
      rotate_left
      ·rw [if_neg c42] at H
       exact nn H
      rw [if_pos c42] at H
      have c42b0:decide (x7_2 < ((rd_L4 x11_2 x6_1).length:Int)) = true:=decide_eq_true c42
      (try simp only [hl11_1] at c42b0)
      (try simp only [hl11_2] at c42b0)
      (try simp only [hl358_0] at c42b0)
      (try simp only [hl359_0] at c42b0)
      (try simp only [hl364_0] at c42b0)
      (try simp only [hl365_0] at c42b0)
      (try simp only [hl367_0] at c42b0)
      clear c42
      obtain⟨y361,hy361⟩:∃ y_:List Int,y_ = ((rd_L4 x11_2 x6_1).set (x7_2:Int).toNat (wrap64 ((rd (rd_L4 x11_2 (ji36)) (ji39)) + 1))):=⟨_,rfl⟩
      first|(with_reducible replace H:=yB hy361 H)|rw [← hy361] at H|skip
      have Ny361:=mk0 hy361
      clear hy361
      obtain⟨y363,hy363⟩:∃ y_:List (List Int),y_ = (x11_2.set (x6_1:Int).toNat y361):=⟨_,rfl⟩
      first|(with_reducible replace H:=yB hy363 H)|rw [← hy363] at H|skip
      have Ny363:=mk0 hy363
      clear hy363
      have H':=mk0 H
      clear H
      try go_wp2
      replace HO_11:=mk0 (dS HO_11.out)
      replace HB:=mk0 (dZ HB.out)
      have p356:0 ≤ (x6_1:Int):=oD
      have q356:x6_1 < (l0.length:Int):=oD
      obtain⟨ad356,e356,hx356_0⟩:=Kd.at_int HR0.out x6_1 p356 q356
      have hw356_0:=hx356_0
      cases e356
      replace hx356_0:=(HB.out.cell (World.block_lt_of_cell? w _ hx356_0)).trans hx356_0
      replace p356:=eq_true p356
      replace q356:=eq_true q356
      have p357:0 ≤ (x7_2:Int):=oD
      have q357:x7_2 < (l1.length:Int):=oD
      obtain⟨ad357,e357,hx357_0⟩:=Kd.at_int HR1.out x7_2 p357 q357
      have hw357_0:=hx357_0
      cases e357
      replace hx357_0:=(HB.out.cell (World.block_lt_of_cell? w _ hx357_0)).trans hx357_0
      replace p357:=eq_true p357
      replace q357:=eq_true q357
      refine start_ (n:=9) (S:=fun w'=>w'.cell? (ad356.add (x6_1).toNat) = some (.int .i64 (rd l0 x6_1)) ∧ w'.cell? (ad357.add (x7_2).toNat) = some (.int .i64 (rd l1 x7_2))) (ds:=[]) (bm 9 0) (by kernel_rfl) rfl (by kernel_rfl) ⟨((HB.out.cell (World.block_lt_of_cell? w _ hw356_0)).trans hw356_0),((HB.out.cell (World.block_lt_of_cell? w _ hw357_0)).trans hw357_0)⟩ (fun hHeld=>?_);refine with_tabW impl_commonTable.tab10 impl_commonTable.bits10 (fun HT_ HW_=>?_)
      generalize wr.drew = w44 at HO_11 HB hx356_0 hx357_0 hHeld ⊢
      refine pU 0 (some 41) (bm 9 1) HT_ ?_
      refine pU 1 (some 42) (bm 9 3) HT_ ?_
      refine pU 2 (some 43) (bm 9 7) HT_ ?_
      refine pU 4 (some 45) (bm 9 23) HT_ ?_
      refine pU 5 (some 46) (bm 9 55) HT_ ?_
      refine pU 6 (some 47) (bm 9 119) HT_ ?_
      refine pT 3 (some 44) (bm 9 127) HT_ HW_ hHeld ?_
      refine pT 7 (some 48) (bm 9 255) HT_ HW_ hHeld ?_
      refine pU 8 (some 49) (bm 9 511) HT_ ?_
      refine pD HT_ ?_
      try go_wp2
      replace HO_11:=mk0 (dS HO_11.out)
      replace HB:=mk0 (dZ HB.out)
      have p358:0 ≤ (x6_1:Int):=oD
      have q358:x6_1 < (x11_2.length:Int):=oD
      obtain⟨ad358,A358_0,c358_0,e358,hx358_0,hl358_0,hi358_0⟩:=at_L4 (Kd.S_reads' HO_11.out).2.2 x6_1 p358 q358
      obtain rfl:(⟨go11,0,none⟩:Addr) = ad358:=(by injection e358)
      obtain⟨ce358,hce358,hMe358,hcc358⟩:=Kd.S_get HO_11.out [] x6_1 p358 (by first|exact q358|exact oD|(have e_:=(Kd.S_reads' HO_11.out).1;omega))
      obtain⟨ve358_0,rfl,ge358_0⟩:=hMe358
      have hv358_0:=hcc358 0 _ rfl
      rw [Nat.add_zero,show ((Kd.slice 3 (Kd.int .i64))).sz = 1 from rfl,Nat.mul_one] at hv358_0
      replace hv358_0:=Option.some.inj (hv358_0.symm.trans hx358_0)
      rw [hv358_0] at ge358_0
      have HL358_0:=mk0 (show Kd.R (Kd.int .i64) 3 _ _ _ _ (rd_L4 x11_2 x6_1) from ge358_0)
      clear hv358_0 ge358_0
      have HX358_0:=mk0 hx358_0
      clear hcc358 hce358
      (first|simp only [add_plain] at hx358_0|simp only [add_at] at hx358_0|simp only [Addr.add,Nat.zero_add] at hx358_0|skip)
      have HR358_0:=mk0 hi358_0
      have HC358_0:=mk0 hl358_0
      clear hi358_0 hl358_0
      replace p358:=eq_true p358
      replace q358:=eq_true q358
      have p359:0 ≤ ((ji36):Int):=oD
      have q359:(ji36) < (x11_2.length:Int):=oD
      obtain⟨ad359,A359_0,c359_0,e359,hx359_0,hl359_0,hi359_0⟩:=at_L4 (Kd.S_reads' HO_11.out).2.2 (ji36) p359 q359
      obtain rfl:(⟨go11,0,none⟩:Addr) = ad359:=(by injection e359)
      obtain⟨ce359,hce359,hMe359,hcc359⟩:=Kd.S_get HO_11.out [] (ji36) p359 (by first|exact q359|exact oD|(have e_:=(Kd.S_reads' HO_11.out).1;omega))
      obtain⟨ve359_0,rfl,ge359_0⟩:=hMe359
      have hv359_0:=hcc359 0 _ rfl
      rw [Nat.add_zero,show ((Kd.slice 3 (Kd.int .i64))).sz = 1 from rfl,Nat.mul_one] at hv359_0
      replace hv359_0:=Option.some.inj (hv359_0.symm.trans hx359_0)
      rw [hv359_0] at ge359_0
      have HL359_0:=mk0 (show Kd.R (Kd.int .i64) 3 _ _ _ _ (rd_L4 x11_2 (ji36)) from ge359_0)
      clear hv359_0 ge359_0
      have HX359_0:=mk0 hx359_0
      clear hcc359 hce359
      (first|simp only [add_plain] at hx359_0|simp only [add_at] at hx359_0|simp only [Addr.add,Nat.zero_add] at hx359_0|skip)
      have HR359_0:=mk0 hi359_0
      have HC359_0:=mk0 hl359_0
      clear hi359_0 hl359_0
      replace p359:=eq_true p359
      replace q359:=eq_true q359
      have p360:0 ≤ ((ji39):Int):=oD
      have q360:(ji39) < ((rd_L4 x11_2 (ji36)).length:Int):=oD
      obtain⟨ad360,e360,hx360_0⟩:=Kd.at_int (by repeat (first|(with_reducible exact HR359_0.out)|(with_reducible first|apply aC|apply nC|apply dC)|exact HR359_0.out|exact (Kd.V_reads' HL359_0.out).2.2)) (ji39) p360 q360
      cases e360
      replace p360:=eq_true p360
      replace q360:=eq_true q360
      have p43:0 ≤ (x7_2:Int):=oD
      have q43:(x7_2:Int) < (((rd_L4 x11_2 x6_1).length:Int):Int):=oD
      obtain⟨go43,co43,eo43,gb43,gl43,cl43,HG43⟩:=Kd.R_form HL358_0.out (by omega)
      (first|cases eo43|(injection eo43 with ea_ en_ ec_;(first|subst ea_|(injection ea_ with ea_;subst ea_));subst ec_;clear en_))
      have GB43:=mk0 gb43
      have GG43:=mk0 HG43
      clear gb43 gl43 HG43
      obtain⟨hx43_0,hf43_0⟩:=Kd.R_celln 0 HL358_0.out (x7_2:Int) p43 q43
      replace p43:=eq_true p43
      replace q43:=eq_true q43
      have hq46:(x6_1:Int) < (x11_2.length:Int):=(by have h_:(x6_1:Int) < ((x11_2.length:Int):Int):=oD;first|exact h_|(have e_:=(Kd.S_reads' HO_11.out).1;omega)|simpa only [List.length_set,List.length_set] using h_)
      obtain⟨oki46,ce46,hcl46,hM46,hcc46,hok46,hbk46⟩:=Kd.S_borrow HO_11.out [] (x6_1:Int) (oD) (by first|exact hq46|(have e_:=(Kd.S_reads' HO_11.out).1;omega))
      obtain⟨ve46_0,rfl,ge46_0⟩:=hM46
      have hv46:=hcc46 0 _ rfl
      rw [Nat.add_zero,show ((Kd.slice 3 (Kd.int .i64))).sz = 1 from rfl,Nat.mul_one] at hv46
      replace hv46:=Option.some.inj (hv46.symm.trans HX358_0.out)
      subst hv46
      clear hcc46 hcl46
      replace ge46_0:=(show Kd.R (Kd.int .i64) 3 _ _ _ _ (rd_L4 x11_2 x6_1) from ge46_0)
      have HP46:=Kd.R_putg ge46_0 (x7_2:Int) (wrap64 ((rd (rd_L4 x11_2 (ji36)) (ji39)) + 1))
      rw [← Ny361.out] at HP46
      have HS46:=hbk46 HP46.2 (fun k_ e_=>by injection e_ with e_;subst e_;exact ge46_0.1 _ rfl) (x':=y361) (Kd.M_row HP46.1)
      rw [← Ny363.out] at HS46
      have HQ46:=mk0 HS46
      clear HP46 HS46 hbk46 hok46
      refine start_ (n:=17) (S:=fun w'=>w'.cell? ⟨go11,(x6_1).toNat,none⟩ = some (.slice (some ⟨go43,0,none⟩) (rd_L4 x11_2 x6_1).length c358_0) ∧ w'.cell? ⟨go11,((ji36)).toNat,none⟩ = some (.slice (some ad360) (rd_L4 x11_2 (ji36)).length c359_0) ∧ w'.cell? (ad360.add ((ji39)).toNat) = some (.int .i64 (rd (rd_L4 x11_2 (ji36)) (ji39)))) (ds:=[16]) (bm 17 0) (by kernel_rfl) rfl (by kernel_rfl) ⟨hx358_0,hx359_0,hx360_0⟩ (fun hHeld=>?_);refine with_tabW impl_commonTable.tab11 impl_commonTable.bits11 (fun HT_ HW_=>?_)
      generalize w44.drew = w45 at HO_11 HB GG43 HL358_0 HL359_0 HQ46 HR358_0 HR359_0 HX358_0 HX359_0 hf43_0 hx358_0 hx359_0 hx360_0 hx43_0 hHeld ⊢
      refine pU 0 (some 50) (bm 17 1) HT_ ?_
      refine pU 1 (some 51) (bm 17 3) HT_ ?_
      refine pU 2 (some 52) (bm 17 7) HT_ ?_
      refine pU 4 (some 54) (bm 17 23) HT_ ?_
      refine pU 5 (some 55) (bm 17 55) HT_ ?_
      refine pU 6 (some 56) (bm 17 119) HT_ ?_
      refine pU 7 (some 57) (bm 17 247) HT_ ?_
      refine pU 8 (some 58) (bm 17 503) HT_ ?_
      refine pU 10 (some 60) (bm 17 1527) HT_ ?_
      refine pU 11 (some 61) (bm 17 3575) HT_ ?_
      refine pT 3 (some 53) (bm 17 3583) HT_ HW_ hHeld ?_
      refine pT 9 (some 59) (bm 17 4095) HT_ HW_ hHeld ?_
      refine pU 12 (some 62) (bm 17 8191) HT_ ?_
      refine pT 13 (some 63) (bm 17 16383) HT_ HW_ hHeld ?_
      refine pU 14 (some 64) (bm 17 32767) HT_ ?_
      refine pU 15 (some 65) (bm 17 65535) HT_ ?_
      refine pL 16 none (bm 17 131071) HT_ (fun K hK=>?_)
      refine skip_ (w1:=?_) (by rfl) rfl ?_ ?_
      rotate_left
      ·go_simp
       rfl
      refine hK.out _ _ ?_
      clear hK K
      refine pD HT_ ?_
      try go_wp2
      (try simp only [← hl11_2])
      go_roundg k2
      case measure=>have:=HK1.out;have:=HK2.out;omega
      case rel=>exact⟨(wrap64 (x7_2 - 1)),(y363),eS,H',⟨by have:=HK1.out;have:=HK2.out;omega⟩,⟨by (try simp only [hl11_1]);(try simp only [hl11_2]);(with_reducible repeat (first|apply aS|apply nS|apply dS));exact HQ46.out⟩,⟨kB HB.out⟩⟩
     rw [if_neg c34] at H
     have c34b0:((rd l0 x6_1) == (rd l1 x7_2)) = false:=beq_eq_false_iff_ne.mpr c34
     have c34b1:((rd l0 x6_1) != (rd l1 x7_2)) = true:=bne_iff_ne.mpr c34
     by_cases c48:x6_1 < (x11_2.length:Int)
     rotate_left
     ·rw [if_neg c48] at H
      exact nn H
     rw [if_pos c48] at H
     have c48b0:decide (x6_1 < (x11_2.length:Int)) = true:=decide_eq_true c48
     (try simp only [hl11_1] at c48b0)
     (try simp only [hl11_2] at c48b0)
     (try simp only [hl358_0] at c48b0)
     (try simp only [hl359_0] at c48b0)
     (try simp only [hl364_0] at c48b0)
     (try simp only [hl365_0] at c48b0)
     (try simp only [hl367_0] at c48b0)
     clear c48
     try clear hji36w
     try clear hji36
     obtain⟨ji49,hji49⟩:∃ j_:Int,(wrap64 (x6_1 + 1)) = j_:=⟨_,rfl⟩
     first|rw [hji49] at H|simp only [hji49] at H
     have hji49w:(IntKind.i64.wrap (x6_1 + 1)) = ji49:=(i64_w _).trans hji49
     by_cases c50:0 ≤ (ji49)
     rotate_left
     ·rw [if_neg c50] at H
      exact nn H
     rw [if_pos c50] at H
     have c50b0:decide (0 ≤ (ji49)) = true:=decide_eq_true c50
     clear c50
     by_cases c51:(ji49) < (x11_2.length:Int)
     rotate_left
     ·rw [if_neg c51] at H
      exact nn H
     rw [if_pos c51] at H
     have c51b0:decide ((ji49) < (x11_2.length:Int)) = true:=decide_eq_true c51
     (try simp only [hl11_1] at c51b0)
     (try simp only [hl11_2] at c51b0)
     (try simp only [hl358_0] at c51b0)
     (try simp only [hl359_0] at c51b0)
     (try simp only [hl364_0] at c51b0)
     (try simp only [hl365_0] at c51b0)
     (try simp only [hl367_0] at c51b0)
     clear c51
     by_cases c52:x7_2 < ((rd_L4 x11_2 (ji49)).length:Int)
     rotate_left
     ·rw [if_neg c52] at H
      exact nn H
     rw [if_pos c52] at H
     have c52b0:decide (x7_2 < ((rd_L4 x11_2 (ji49)).length:Int)) = true:=decide_eq_true c52
     (try simp only [hl11_1] at c52b0)
     (try simp only [hl11_2] at c52b0)
     (try simp only [hl358_0] at c52b0)
     (try simp only [hl359_0] at c52b0)
     (try simp only [hl364_0] at c52b0)
     (try simp only [hl365_0] at c52b0)
     (try simp only [hl367_0] at c52b0)
     clear c52
     try clear hji39w
     try clear hji39
     obtain⟨ji53,hji53⟩:∃ j_:Int,(wrap64 (x7_2 + 1)) = j_:=⟨_,rfl⟩
     first|rw [hji53] at H|simp only [hji53] at H
     have hji53w:(IntKind.i64.wrap (x7_2 + 1)) = ji53:=(i64_w _).trans hji53
     by_cases c54:0 ≤ (ji53)
     rotate_left
     ·rw [if_neg c54] at H
      exact nn H
     rw [if_pos c54] at H
     have c54b0:decide (0 ≤ (ji53)) = true:=decide_eq_true c54
     clear c54
     by_cases c55:(ji53) < ((rd_L4 x11_2 x6_1).length:Int)
     rotate_left
     ·rw [if_neg c55] at H
      exact nn H
     rw [if_pos c55] at H
     have c55b0:decide ((ji53) < ((rd_L4 x11_2 x6_1).length:Int)) = true:=decide_eq_true c55
     (try simp only [hl11_1] at c55b0)
     (try simp only [hl11_2] at c55b0)
     (try simp only [hl358_0] at c55b0)
     (try simp only [hl359_0] at c55b0)
     (try simp only [hl364_0] at c55b0)
     (try simp only [hl365_0] at c55b0)
     (try simp only [hl367_0] at c55b0)
     clear c55
     obtain⟨ji56,hji56⟩:∃ j_:Int,(mx (rd (rd_L4 x11_2 (ji49)) x7_2) (rd (rd_L4 x11_2 x6_1) (ji53))) = j_:=⟨_,rfl⟩
     first|rw [hji56] at H|simp only [hji56] at H
     have hji56_:(if (rd (rd_L4 x11_2 (ji49)) x7_2) < (rd (rd_L4 x11_2 x6_1) (ji53)) then (rd (rd_L4 x11_2 x6_1) (ji53)) else (rd (rd_L4 x11_2 (ji49)) x7_2)) = ji56:=hji56
     by_cases c57:x7_2 < ((rd_L4 x11_2 x6_1).length:Int)
     rotate_left
     ·rw [if_neg c57] at H
      exact nn H
     rw [if_pos c57] at H
     have c57b0:decide (x7_2 < ((rd_L4 x11_2 x6_1).length:Int)) = true:=decide_eq_true c57
     (try simp only [hl11_1] at c57b0)
     (try simp only [hl11_2] at c57b0)
     (try simp only [hl358_0] at c57b0)
     (try simp only [hl359_0] at c57b0)
     (try simp only [hl364_0] at c57b0)
     (try simp only [hl365_0] at c57b0)
     (try simp only [hl367_0] at c57b0)
     clear c57
     obtain⟨y369,hy369⟩:∃ y_:List Int,y_ = ((rd_L4 x11_2 x6_1).set (x7_2:Int).toNat (ji56)):=⟨_,rfl⟩
     first|(with_reducible replace H:=yB hy369 H)|rw [← hy369] at H|skip
     have Ny369:=mk0 hy369
     clear hy369
     obtain⟨y371,hy371⟩:∃ y_:List (List Int),y_ = (x11_2.set (x6_1:Int).toNat y369):=⟨_,rfl⟩
     first|(with_reducible replace H:=yB hy371 H)|rw [← hy371] at H|skip
     have Ny371:=mk0 hy371
     clear hy371
     have H':=mk0 H
     clear H
     try go_wp2
     replace HO_11:=mk0 (dS HO_11.out)
     replace HB:=mk0 (dZ HB.out)
     have p356:0 ≤ (x6_1:Int):=oD
     have q356:x6_1 < (l0.length:Int):=oD
     obtain⟨ad356,e356,hx356_0⟩:=Kd.at_int HR0.out x6_1 p356 q356
     have hw356_0:=hx356_0
     cases e356
     replace hx356_0:=(HB.out.cell (World.block_lt_of_cell? w _ hx356_0)).trans hx356_0
     replace p356:=eq_true p356
     replace q356:=eq_true q356
     have p357:0 ≤ (x7_2:Int):=oD
     have q357:x7_2 < (l1.length:Int):=oD
     obtain⟨ad357,e357,hx357_0⟩:=Kd.at_int HR1.out x7_2 p357 q357
     have hw357_0:=hx357_0
     cases e357
     replace hx357_0:=(HB.out.cell (World.block_lt_of_cell? w _ hx357_0)).trans hx357_0
     replace p357:=eq_true p357
     replace q357:=eq_true q357
     refine start_ (n:=9) (S:=fun w'=>w'.cell? (ad356.add (x6_1).toNat) = some (.int .i64 (rd l0 x6_1)) ∧ w'.cell? (ad357.add (x7_2).toNat) = some (.int .i64 (rd l1 x7_2))) (ds:=[]) (bm 9 0) (by kernel_rfl) rfl (by kernel_rfl) ⟨((HB.out.cell (World.block_lt_of_cell? w _ hw356_0)).trans hw356_0),((HB.out.cell (World.block_lt_of_cell? w _ hw357_0)).trans hw357_0)⟩ (fun hHeld=>?_);refine with_tabW impl_commonTable.tab10 impl_commonTable.bits10 (fun HT_ HW_=>?_)
     generalize wr.drew = w59 at HO_11 HB hx356_0 hx357_0 hHeld ⊢
     refine pU 0 (some 41) (bm 9 1) HT_ ?_
     refine pU 1 (some 42) (bm 9 3) HT_ ?_
     refine pU 2 (some 43) (bm 9 7) HT_ ?_
     refine pU 4 (some 45) (bm 9 23) HT_ ?_
     refine pU 5 (some 46) (bm 9 55) HT_ ?_
     refine pU 6 (some 47) (bm 9 119) HT_ ?_
     refine pT 3 (some 44) (bm 9 127) HT_ HW_ hHeld ?_
     refine pT 7 (some 48) (bm 9 255) HT_ HW_ hHeld ?_
     refine pU 8 (some 49) (bm 9 511) HT_ ?_
     refine pD HT_ ?_
     try go_wp2
     replace HO_11:=mk0 (dS HO_11.out)
     replace HB:=mk0 (dZ HB.out)
     have p364:0 ≤ (x6_1:Int):=oD
     have q364:x6_1 < (x11_2.length:Int):=oD
     obtain⟨ad364,A364_0,c364_0,e364,hx364_0,hl364_0,hi364_0⟩:=at_L4 (Kd.S_reads' HO_11.out).2.2 x6_1 p364 q364
     obtain rfl:(⟨go11,0,none⟩:Addr) = ad364:=(by injection e364)
     obtain⟨ce364,hce364,hMe364,hcc364⟩:=Kd.S_get HO_11.out [] x6_1 p364 (by first|exact q364|exact oD|(have e_:=(Kd.S_reads' HO_11.out).1;omega))
     obtain⟨ve364_0,rfl,ge364_0⟩:=hMe364
     have hv364_0:=hcc364 0 _ rfl
     rw [Nat.add_zero,show ((Kd.slice 3 (Kd.int .i64))).sz = 1 from rfl,Nat.mul_one] at hv364_0
     replace hv364_0:=Option.some.inj (hv364_0.symm.trans hx364_0)
     rw [hv364_0] at ge364_0
     have HL364_0:=mk0 (show Kd.R (Kd.int .i64) 3 _ _ _ _ (rd_L4 x11_2 x6_1) from ge364_0)
     clear hv364_0 ge364_0
     have HX364_0:=mk0 hx364_0
     clear hcc364 hce364
     (first|simp only [add_plain] at hx364_0|simp only [add_at] at hx364_0|simp only [Addr.add,Nat.zero_add] at hx364_0|skip)
     have HR364_0:=mk0 hi364_0
     have HC364_0:=mk0 hl364_0
     clear hi364_0 hl364_0
     replace p364:=eq_true p364
     replace q364:=eq_true q364
     have p365:0 ≤ ((ji49):Int):=oD
     have q365:(ji49) < (x11_2.length:Int):=oD
     obtain⟨ad365,A365_0,c365_0,e365,hx365_0,hl365_0,hi365_0⟩:=at_L4 (Kd.S_reads' HO_11.out).2.2 (ji49) p365 q365
     obtain rfl:(⟨go11,0,none⟩:Addr) = ad365:=(by injection e365)
     obtain⟨ce365,hce365,hMe365,hcc365⟩:=Kd.S_get HO_11.out [] (ji49) p365 (by first|exact q365|exact oD|(have e_:=(Kd.S_reads' HO_11.out).1;omega))
     obtain⟨ve365_0,rfl,ge365_0⟩:=hMe365
     have hv365_0:=hcc365 0 _ rfl
     rw [Nat.add_zero,show ((Kd.slice 3 (Kd.int .i64))).sz = 1 from rfl,Nat.mul_one] at hv365_0
     replace hv365_0:=Option.some.inj (hv365_0.symm.trans hx365_0)
     rw [hv365_0] at ge365_0
     have HL365_0:=mk0 (show Kd.R (Kd.int .i64) 3 _ _ _ _ (rd_L4 x11_2 (ji49)) from ge365_0)
     clear hv365_0 ge365_0
     have HX365_0:=mk0 hx365_0
     clear hcc365 hce365
     (first|simp only [add_plain] at hx365_0|simp only [add_at] at hx365_0|simp only [Addr.add,Nat.zero_add] at hx365_0|skip)
     have HR365_0:=mk0 hi365_0
     have HC365_0:=mk0 hl365_0
     clear hi365_0 hl365_0
     replace p365:=eq_true p365
     replace q365:=eq_true q365
     have p366:0 ≤ (x7_2:Int):=oD
     have q366:x7_2 < ((rd_L4 x11_2 (ji49)).length:Int):=oD
     obtain⟨ad366,e366,hx366_0⟩:=Kd.at_int (by repeat (first|(with_reducible exact HR365_0.out)|(with_reducible first|apply aC|apply nC|apply dC)|exact HR365_0.out|exact (Kd.V_reads' HL365_0.out).2.2)) x7_2 p366 q366
     cases e366
     replace p366:=eq_true p366
     replace q366:=eq_true q366
     have p367:0 ≤ (x6_1:Int):=oD
     have q367:x6_1 < (x11_2.length:Int):=oD
     obtain⟨ad367,A367_0,c367_0,e367,hx367_0,hl367_0,hi367_0⟩:=at_L4 (Kd.S_reads' HO_11.out).2.2 x6_1 p367 q367
     obtain rfl:(⟨go11,0,none⟩:Addr) = ad367:=(by injection e367)
     obtain⟨ce367,hce367,hMe367,hcc367⟩:=Kd.S_get HO_11.out [] x6_1 p367 (by first|exact q367|exact oD|(have e_:=(Kd.S_reads' HO_11.out).1;omega))
     obtain⟨ve367_0,rfl,ge367_0⟩:=hMe367
     have hv367_0:=hcc367 0 _ rfl
     rw [Nat.add_zero,show ((Kd.slice 3 (Kd.int .i64))).sz = 1 from rfl,Nat.mul_one] at hv367_0
     replace hv367_0:=Option.some.inj (hv367_0.symm.trans hx367_0)
     rw [hv367_0] at ge367_0
     have HL367_0:=mk0 (show Kd.R (Kd.int .i64) 3 _ _ _ _ (rd_L4 x11_2 x6_1) from ge367_0)
     clear hv367_0 ge367_0
     have HX367_0:=mk0 hx367_0
     clear hcc367 hce367
     (first|simp only [add_plain] at hx367_0|simp only [add_at] at hx367_0|simp only [Addr.add,Nat.zero_add] at hx367_0|skip)
     have HR367_0:=mk0 hi367_0
     have HC367_0:=mk0 hl367_0
     clear hi367_0 hl367_0
     replace p367:=eq_true p367
     replace q367:=eq_true q367
     have ea_:=Option.some.inj (hx364_0.symm.trans hx367_0)
     injection ea_ with ea_ en_ ec_
     subst ea_
     subst ec_
     clear en_
     have p368:0 ≤ ((ji53):Int):=oD
     have q368:(ji53) < ((rd_L4 x11_2 x6_1).length:Int):=oD
     obtain⟨ad368,e368,hx368_0⟩:=Kd.at_int (by repeat (first|(with_reducible exact HR367_0.out)|(with_reducible first|apply aC|apply nC|apply dC)|exact HR367_0.out|exact (Kd.V_reads' HL367_0.out).2.2)) (ji53) p368 q368
     cases e368
     replace p368:=eq_true p368
     replace q368:=eq_true q368
     have p58:0 ≤ (x7_2:Int):=oD
     have q58:(x7_2:Int) < (((rd_L4 x11_2 x6_1).length:Int):Int):=oD
     obtain⟨go58,co58,eo58,gb58,gl58,cl58,HG58⟩:=Kd.R_form HL364_0.out (by omega)
     (first|cases eo58|(injection eo58 with ea_ en_ ec_;(first|subst ea_|(injection ea_ with ea_;subst ea_));subst ec_;clear en_))
     have GB58:=mk0 gb58
     have GG58:=mk0 HG58
     clear gb58 gl58 HG58
     (first|simp only [add_plain] at hx368_0|skip)
     obtain⟨hx58_0,hf58_0⟩:=Kd.R_celln 0 HL364_0.out (x7_2:Int) p58 q58
     replace p58:=eq_true p58
     replace q58:=eq_true q58
     have hq61:(x6_1:Int) < (x11_2.length:Int):=(by have h_:(x6_1:Int) < ((x11_2.length:Int):Int):=oD;first|exact h_|(have e_:=(Kd.S_reads' HO_11.out).1;omega)|simpa only [List.length_set,List.length_set] using h_)
     obtain⟨oki61,ce61,hcl61,hM61,hcc61,hok61,hbk61⟩:=Kd.S_borrow HO_11.out [] (x6_1:Int) (oD) (by first|exact hq61|(have e_:=(Kd.S_reads' HO_11.out).1;omega))
     obtain⟨ve61_0,rfl,ge61_0⟩:=hM61
     have hv61:=hcc61 0 _ rfl
     rw [Nat.add_zero,show ((Kd.slice 3 (Kd.int .i64))).sz = 1 from rfl,Nat.mul_one] at hv61
     replace hv61:=Option.some.inj (hv61.symm.trans HX364_0.out)
     subst hv61
     clear hcc61 hcl61
     replace ge61_0:=(show Kd.R (Kd.int .i64) 3 _ _ _ _ (rd_L4 x11_2 x6_1) from ge61_0)
     have HP61:=Kd.R_putg ge61_0 (x7_2:Int) ji56
     rw [← Ny369.out] at HP61
     have HS61:=hbk61 HP61.2 (fun k_ e_=>by injection e_ with e_;subst e_;exact ge61_0.1 _ rfl) (x':=y369) (Kd.M_row HP61.1)
     rw [← Ny371.out] at HS61
     have HQ61:=mk0 HS61
     clear HP61 HS61 hbk61 hok61
     refine start_ (n:=24) (S:=fun w'=>w'.cell? ⟨go11,(x6_1).toNat,none⟩ = some (.slice (some ⟨go58,0,none⟩) (rd_L4 x11_2 x6_1).length c364_0) ∧ w'.cell? ⟨go11,((ji49)).toNat,none⟩ = some (.slice (some ad366) (rd_L4 x11_2 (ji49)).length c365_0) ∧ w'.cell? (ad366.add (x7_2).toNat) = some (.int .i64 (rd (rd_L4 x11_2 (ji49)) x7_2)) ∧ w'.cell? ⟨go11,(x6_1).toNat,none⟩ = some (.slice (some ⟨go58,0,none⟩) (rd_L4 x11_2 x6_1).length c364_0) ∧ w'.cell? ⟨go58,((ji53)).toNat,none⟩ = some (.int .i64 (rd (rd_L4 x11_2 x6_1) (ji53)))) (ds:=[23]) (bm 24 0) (by kernel_rfl) rfl (by kernel_rfl) ⟨hx364_0,hx365_0,hx366_0,hx367_0,hx368_0⟩ (fun hHeld=>?_);refine with_tabW impl_commonTable.tab12 impl_commonTable.bits12 (fun HT_ HW_=>?_)
     generalize w59.drew = w60 at HO_11 HB GG58 HL364_0 HL365_0 HL367_0 HQ61 HR364_0 HR365_0 HR367_0 HX364_0 HX365_0 HX367_0 hf58_0 hx364_0 hx365_0 hx366_0 hx367_0 hx368_0 hx58_0 hHeld ⊢
     refine pU 0 (some 66) (bm 24 1) HT_ ?_
     refine pU 1 (some 67) (bm 24 3) HT_ ?_
     refine pU 2 (some 68) (bm 24 7) HT_ ?_
     refine pU 4 (some 70) (bm 24 23) HT_ ?_
     refine pU 5 (some 71) (bm 24 55) HT_ ?_
     refine pU 6 (some 72) (bm 24 119) HT_ ?_
     refine pU 7 (some 73) (bm 24 247) HT_ ?_
     refine pU 8 (some 74) (bm 24 503) HT_ ?_
     refine pU 10 (some 76) (bm 24 1527) HT_ ?_
     refine pU 13 (some 79) (bm 24 9719) HT_ ?_
     refine pU 14 (some 80) (bm 24 26103) HT_ ?_
     refine pU 15 (some 81) (bm 24 58871) HT_ ?_
     refine pU 17 (some 83) (bm 24 189943) HT_ ?_
     refine pU 18 (some 84) (bm 24 452087) HT_ ?_
     refine pT 3 (some 69) (bm 24 452095) HT_ HW_ hHeld ?_
     refine pT 9 (some 75) (bm 24 452607) HT_ HW_ hHeld ?_
     refine pU 11 (some 77) (bm 24 454655) HT_ ?_
     refine pT 12 (some 78) (bm 24 458751) HT_ HW_ hHeld ?_
     refine pT 16 (some 82) (bm 24 524287) HT_ HW_ hHeld ?_
     refine pU 19 (some 85) (bm 24 1048575) HT_ ?_
     refine pT 20 (some 86) (bm 24 2097151) HT_ HW_ hHeld ?_
     refine pU 21 (some 87) (bm 24 4194303) HT_ ?_
     refine pU 22 (some 88) (bm 24 8388607) HT_ ?_
     refine pL 23 none (bm 24 16777215) HT_ (fun K hK=>?_)
     refine skip_ (w1:=?_) (by rfl) rfl ?_ ?_
     rotate_left
     ·go_simp
      rfl
     refine hK.out _ _ ?_
     clear hK K
     refine pD HT_ ?_
     try go_wp2
     (try simp only [← hl11_2])
     go_roundg k2
     case measure=>have:=HK1.out;have:=HK2.out;omega
     case rel=>exact⟨(wrap64 (x7_2 - 1)),(y371),eS,H',⟨by have:=HK1.out;have:=HK2.out;omega⟩,⟨by (try simp only [hl11_1]);(try simp only [hl11_2]);(with_reducible repeat (first|apply aS|apply nS|apply dS));exact HQ61.out⟩,⟨kB HB.out⟩⟩
end Go.Proofs.Ytadhngelhognaaa.QFnShare
