-- A walk, made by walk.py, a program of this session's.
import Derived.Test.YtadhngelhognaaaQFnSharex0
namespace Go.Proofs.Ytadhngelhognaaa.QFnShare
open Go.RowKit Go.Proofs.YtadhngelhognaaaW.PrintWords Go.Proofs.YtadhngelhognaaaW.PrintLast Go.Proofs.YtadhngelhognaaaW.PrintMore
attribute [local go_sem] max2_int min2_int max_two min_two max_three min_three max_four min_four   -- for this text's walks alone
set_option linter.unusedVariables false
set_option linter.unusedSimpArgs false
/-! ### spec_l12Table: function 59 -/
mutual
def spec_l12Table.l0 : Nat → List Int → List Int → Int → List (List Int) → Option ((List (List Int)))
 | 0, _, _, _, _ => none
 | k + 1, x0, x1, x6, x11 => if x6 ≥ 0 then (if 0 ≤ (wrap64 ((x1.length : Int) + 1)) then (if (wrap64 ((x1.length : Int) + 1) : Int).toNat ≤ 35184372088832 then (if 0 ≤ x6 then (if x6 < (x11.length : Int) then (spec_l12Table.l1 k x0 x1 x6 (x1.length : Int) (x11.set (x6 : Int).toNat (List.replicate (wrap64 ((x1.length : Int) + 1) : Int).toNat 0))) else (none)) else (none)) else (none)) else (none)) else (some x11)
def spec_l12Table.l1 : Nat → List Int → List Int → Int → Int → List (List Int) → Option ((List (List Int)))
 | 0, _, _, _, _, _ => none
 | k + 1, x0, x1, x6, x7, x11 => if x7 ≥ 0 then (if x6 < (x0.length : Int) then (spec_l12Table.j2 k x0 x1 x11 x6 x7 (decide (x7 < (x1.length : Int)))) else (spec_l12Table.j2 k x0 x1 x11 x6 x7 false)) else (spec_l12Table.l0 k x0 x1 (wrap64 (x6 - 1)) x11)
def spec_l12Table.j2 : Nat → List Int → List Int → List (List Int) → Int → Int → Bool → Option ((List (List Int)))
 | 0, _, _, _, _, _, _ => none
 | k + 1, x0, x1, x5, x6, x7, x40 => if x40 = true then (if 0 ≤ x6 then (if x6 < (x5.length : Int) then (if 0 ≤ (wrap64 (x6 + 1)) then (if (wrap64 (x6 + 1)) < (x5.length : Int) then (if 0 ≤ x7 then (if x7 < ((rd_L4 x5 (wrap64 (x6 + 1))).length : Int) then (if 0 ≤ (wrap64 (x7 + 1)) then (if (wrap64 (x7 + 1)) < ((rd_L4 x5 x6).length : Int) then (if x7 < ((rd_L4 x5 x6).length : Int) then ((some (x5.set (x6 : Int).toNat ((rd_L4 x5 x6).set (x7 : Int).toNat (mx (rd (rd_L4 x5 (wrap64 (x6 + 1))) x7) (rd (rd_L4 x5 x6) (wrap64 (x7 + 1))))) : List (List Int))).bind fun y258 => (if x6 < (x0.length : Int) then (if x7 < (x1.length : Int) then (if (rd x0 x6) = (rd x1 x7) then (if x7 < ((rd_L4 y258 x6).length : Int) then (if (wrap64 (x7 + 1)) < ((rd_L4 y258 (wrap64 (x6 + 1))).length : Int) then (spec_l12Table.l1 k x0 x1 x6 (wrap64 (x7 - 1)) (y258.set (x6 : Int).toNat ((rd_L4 y258 x6).set (x7 : Int).toNat (mx (rd (rd_L4 y258 x6) x7) (wrap64 (1 + (rd (rd_L4 y258 (wrap64 (x6 + 1))) (wrap64 (x7 + 1))))))))) else (none)) else (none)) else (spec_l12Table.l1 k x0 x1 x6 (wrap64 (x7 - 1)) y258)) else (none)) else (none))) else (none)) else (none)) else (none)) else (none)) else (none)) else (none)) else (none)) else (none)) else (none)) else (spec_l12Table.l1 k x0 x1 x6 (wrap64 (x7 - 1)) x5)
end
def spec_l12Table.f (k : Nat) (l0 : List Int) (l1 : List Int) : Option ((List (List Int))) := if 0 ≤ (wrap64 ((l0.length : Int) + 1)) then (if (wrap64 ((l0.length : Int) + 1) : Int).toNat ≤ 11728124029610 then (spec_l12Table.l0 k l0 l1 (l0.length : Int) (List.replicate (wrap64 ((l0.length : Int) + 1) : Int).toNat [])) else (none)) else (none)
def spec_l12Table.T10 : Bool × List (List Nat × List Nat) := (true, [([], []), ([], []), ([0, 1], [0, 1]), ([2], [2]), ([], []), ([], []), ([], []), ([6], [6]), ([5, 7], [5, 7]), ([8], [8]), ([], []), ([9, 10], [9, 10]), ([11], [11]), ([], []), ([], []), ([13, 14], [13, 14]), ([15], [15]), ([], []), ([17], [17]), ([16, 18], [16, 18]), ([19], [19]), ([12, 20], [12, 20]), ([3, 4, 0, 1, 2, 3, 4, 5, 6, 7, 8, 9, 10, 11, 12, 13, 14, 15, 16, 17, 18, 19, 20, 21], [3, 4]), ([22, 21, 0, 1, 2, 3, 4, 5, 6, 7, 8, 9, 10, 11, 12, 13, 14, 15, 16, 17, 18, 19, 20, 21], [21, 22])])
def spec_l12Table.B10 : List Nat := [0, 0, 3, 7, 0, 0, 0, 64, 224, 480, 0, 2016, 4064, 0, 0, 24576, 57344, 0, 131072, 516096, 1040384, 2097120, 4194303, 8388607]
theorem spec_l12Table.tab10 : rtab .any (opsOf Try.f59 10) = spec_l12Table.T10 := by kernel_rfl
theorem spec_l12Table.bits10 : waitsOk spec_l12Table.T10.2 spec_l12Table.B10 = true := by kernel_rfl
def spec_l12Table.T11 : Bool × List (List Nat × List Nat) := (true, [([], []), ([], []), ([0, 1], [0, 1]), ([2], [2]), ([], []), ([], []), ([4, 5], [4, 5]), ([6], [6]), ([3, 7], [3, 7])])
def spec_l12Table.B11 : List Nat := [0, 0, 3, 7, 0, 0, 48, 112, 255]
theorem spec_l12Table.tab11 : rtab .any (opsOf Try.f59 11) = spec_l12Table.T11 := by kernel_rfl
theorem spec_l12Table.bits11 : waitsOk spec_l12Table.T11.2 spec_l12Table.B11 = true := by kernel_rfl
def spec_l12Table.T12 : Bool × List (List Nat × List Nat) := (true, [([], []), ([], []), ([0, 1], [0, 1]), ([2], [2]), ([], []), ([], []), ([], []), ([5, 6], [5, 6]), ([7], [7]), ([], []), ([8, 9], [8, 9]), ([10], [10]), ([], []), ([], []), ([13], [13]), ([12, 14], [12, 14]), ([15], [15]), ([], []), ([17], [17]), ([16, 18], [16, 18]), ([19], [19]), ([20], [20]), ([11, 21], [11, 21]), ([3, 4, 0, 1, 2, 3, 4, 5, 6, 7, 8, 9, 10, 11, 12, 13, 14, 15, 16, 17, 18, 19, 20, 21, 22], [3, 4]), ([23, 22, 0, 1, 2, 3, 4, 5, 6, 7, 8, 9, 10, 11, 12, 13, 14, 15, 16, 17, 18, 19, 20, 21, 22], [22, 23])])
def spec_l12Table.B12 : List Nat := [0, 0, 3, 7, 0, 0, 0, 96, 224, 0, 992, 2016, 0, 0, 8192, 28672, 61440, 0, 131072, 520192, 1044480, 2093056, 4194272, 8388607, 16777215]
theorem spec_l12Table.tab12 : rtab .any (opsOf Try.f59 12) = spec_l12Table.T12 := by kernel_rfl
theorem spec_l12Table.bits12 : waitsOk spec_l12Table.T12.2 spec_l12Table.B12 = true := by kernel_rfl
set_option maxHeartbeats 8000000 in
set_option maxRecDepth 100000 in
theorem spec_l12Table.calls (k : Nat) (A0 : Option Addr) (c0 : Nat) (l0 : List Int) (A1 : Option Addr) (c1 : Nat) (l1 : List Int) (r : List (List Int)) (w : World) (hr0 : Kd.C (Kd.int .i64) w A0 l0.length l0) (hc0 : l0.length ≤ c0) (hr1 : Kd.C (Kd.int .i64) w A1 l1.length l1) (hc1 : l1.length ≤ c1) (h : spec_l12Table.f k l0 l1 = some r) :
  Calls Try.prog 59 #[.slice A0 l0.length c0, .slice A1 l1.length c1] w fun e w' => ∃ v0_ : Value, e = .returned (v0_) ∧ Kd.S (Kd.slice 3 (Kd.int .i64)) 45 w' w.heap.size (fun _ => True) v0_ r ∧ Below w.heap.size w w' := by
 have HR0:=mk0 hr0
 have HC0:=mk0 hc0
 clear hr0 hc0
 have HR1:=mk0 hr1
 have HC1:=mk0 hc1
 clear hr1 hc1
 have HB:=mk0 (Below.refl w.heap.size w)
 have H:(if 0 ≤ (wrap64 ((l0.length:Int) + 1)) then (if (wrap64 ((l0.length:Int) + 1):Int).toNat ≤ 11728124029610 then (spec_l12Table.l0 k l0 l1 (l0.length:Int) (List.replicate (wrap64 ((l0.length:Int) + 1):Int).toNat [])) else (none)) else (none)) = some r:=h
 clear h
 obtain⟨ji3,hji3⟩:∃ j_:Int,(wrap64 ((l0.length:Int) + 1)) = j_:=⟨_,rfl⟩
 first|rw [hji3] at H|simp only [hji3] at H
 have hji3w:(IntKind.i64.wrap ((l0.length:Int) + 1)) = ji3:=(i64_w _).trans hji3
 by_cases c4:0 ≤ (ji3)
 rotate_left
 ·rw [if_neg c4] at H
  exact nn H
 rw [if_pos c4] at H
 have c4b0:=eq_true c4
 have c4b1:decide (0 ≤ (ji3)) = true:=decide_eq_true c4
 clear c4
 by_cases c5:(ji3:Int).toNat ≤ 11728124029610
 rotate_left
 ·rw [if_neg c5] at H
  exact nn H
 rw [if_pos c5] at H
 have c5b0:=eq_true c5
 have c5b1:decide ((ji3:Int).toNat ≤ 11728124029610) = true:=decide_eq_true c5
 clear c5
 obtain⟨y244,hy244⟩:∃ y_:List (List Int),y_ = (List.replicate (ji3:Int).toNat []):=⟨_,rfl⟩
 first|(with_reducible replace H:=yB hy244 H)|rw [← hy244] at H|skip
 have Ny244:=mk0 hy244
 clear hy244
 have H':=mk0 H
 clear H
 go_enter Try.func59,Try.ntmps59
 go_wp2_with (first|((with_reducible refine gate_dst (N:=11) rfl ?_);(try (refine gate_guard (by rfl) ?_;dsimp only));refine Kd.S_make (Kd.slice 3 (Kd.int .i64)) _ 45 rfl (N:=11) rfl 73 _ _ rfl ji3 rfl rfl Try.underlying73 (.slice none 0 0) 24 info45 rfl (by decide) (by omega) [] (ok:=fun _=>True) (okp:=fun _=>True) ⟨_,rfl,Kd.R_nil _ _ _ _ _⟩ (fun _ hk=>hk) trivial (oD) (Nat.le_trans (Nat.mul_le_mul_right _ (oD:ji3.toNat ≤ 11728124029610)) (by omega)) (Below.refl _ _) (Nat.le_refl _) ?_;intro v245 w6 ho7 hb hg_ hnew_;clear hg_ hnew_;(first|rw [← Ny244.out] at ho7|(simp only [Int.reduceToNat] at ho7;rw [← Ny244.out] at ho7));have HO246:=mk0 (Kd.S_lower ho7 (kZ HB.out));replace HB:=mk0 (kS HB.out hb);clear hb ho7))
 go_loopg [6] k (fun kq v6 w'=>∃ (x6_1:Int) (x11_1:List (List Int)),v6 = .int .i64 x6_1 ∧ Aside0 (spec_l12Table.l0 kq l0 l1 x6_1 x11_1 = some r) ∧ Aside0 (kq ≤ k) ∧ Aside0 (Kd.S (Kd.slice 3 (Kd.int .i64)) 45 w' w.heap.size (fun _=>True) v245 x11_1) ∧ Aside0 (Below w.heap.size w w'))
 case atStart=>exact⟨((l0.length:Int)),(y244),eS,H',⟨Nat.le_refl _⟩,⟨rS HO246.out⟩,⟨kB HB.out⟩⟩
 case round =>
  clear H'
  try clear c1
  try clear p2
  try clear c4
  try clear c4b0
  try clear c4b1
  try clear c5
  try clear c5b0
  try clear c5b1
  try clear p6
  obtain⟨x6_1,x11_1,rfl,HA,HK1,HO_11,HB⟩:=hrel
  cases gk with
  | zero=>exact absurd HA.out (by simp [spec_l12Table.l0])
  | succ k1 =>
   have H:=HA.out
   clear HA
   simp only [spec_l12Table.l0] at H
   by_cases c8:x6_1 ≥ 0
   rotate_left
   ·rw [if_neg c8] at H
    have c8b0:decide (0 ≤ x6_1) = false:=decide_eq_false c8
    clear c8
    obtain rfl:=Option.some.inj H
    go_wp2
    go_ret
    exact⟨_,by first|rfl|(simp [errW_none,errW_some] <;> rfl)|(simp only [← hji3];first|rfl|(simp [errW_none,errW_some] <;> rfl))|(simp [*,errW_none,errW_some] <;> rfl),rS HO_11.out,kB HB.out⟩
   rw [if_pos c8] at H
   have c8b0:decide (0 ≤ x6_1) = true:=decide_eq_true c8
   clear c8
   obtain⟨ji9,hji9⟩:∃ j_:Int,(wrap64 ((l1.length:Int) + 1)) = j_:=⟨_,rfl⟩
   first|rw [hji9] at H|simp only [hji9] at H
   have hji9w:(IntKind.i64.wrap ((l1.length:Int) + 1)) = ji9:=(i64_w _).trans hji9
   by_cases c10:0 ≤ (ji9)
   rotate_left
   ·rw [if_neg c10] at H
    exact nn H
   rw [if_pos c10] at H
   have c10b0:=eq_true c10
   have c10b1:decide (0 ≤ (ji9)) = true:=decide_eq_true c10
   clear c10
   by_cases c11:(ji9:Int).toNat ≤ 35184372088832
   rotate_left
   ·rw [if_neg c11] at H
    exact nn H
   rw [if_pos c11] at H
   have c11b0:=eq_true c11
   have c11b1:decide ((ji9:Int).toNat ≤ 35184372088832) = true:=decide_eq_true c11
   clear c11
   obtain⟨y247,hy247⟩:∃ y_:List Int,y_ = (List.replicate (ji9:Int).toNat 0):=⟨_,rfl⟩
   first|(with_reducible replace H:=yB hy247 H)|rw [← hy247] at H|skip
   have Ny247:=mk0 hy247
   clear hy247
   by_cases c12:0 ≤ x6_1
   rotate_left
   ·rw [if_neg c12] at H
    exact nn H
   rw [if_pos c12] at H
   have c12b0:decide (0 ≤ x6_1) = true:=decide_eq_true c12
   clear c12
   by_cases c13:x6_1 < (x11_1.length:Int)
   rotate_left
   ·rw [if_neg c13] at H
    exact nn H
   rw [if_pos c13] at H
   have c13b0:decide (x6_1 < (x11_1.length:Int)) = true:=decide_eq_true c13
   (try simp only [hl11_2] at c13b0)
   (try simp only [hl251_0] at c13b0)
   (try simp only [hl252_0] at c13b0)
   (try simp only [hl254_0] at c13b0)
   (try simp only [hl261_0] at c13b0)
   (try simp only [hl262_0] at c13b0)
   (try simp only [hl264_0] at c13b0)
   clear c13
   obtain⟨y250,hy250⟩:∃ y_:List (List Int),y_ = (x11_1.set (x6_1:Int).toNat y247):=⟨_,rfl⟩
   first|(with_reducible replace H:=yB hy250 H)|rw [← hy250] at H|skip
   have Ny250:=mk0 hy250
   clear hy250
   have H':=mk0 H
   clear H
   go_wp2_with (first|((with_reducible refine gate_dst (N:=23) rfl ?_);(try (refine gate_guard (by rfl) ?_;dsimp only));refine Kd.R_make (Kd.int .i64) _ 3 rfl (N:=23) rfl 45 _ _ rfl ji9 rfl rfl Try.underlying45 (.int .i64 0) 8 info3 rfl (by decide) (by omega) 0 (ok:=fun _=>True) (okp:=fun _=>True) rfl (fun _ hk=>hk) trivial (oD) (Nat.le_trans (Nat.mul_le_mul_right _ (oD:ji9.toNat ≤ 35184372088832)) (by omega)) (Below.refl _ _) (Nat.le_refl _) ?_;intro v248 w15 ho16 hb hg_ hnew_;clear hg_ hnew_;(first|rw [← Ny247.out] at ho16|(simp only [Int.reduceToNat] at ho16;rw [← Ny247.out] at ho16));replace HO_11:=mk0 (Kd.S_elder' (rS HO_11.out) (Kd.R_base ho16) hb);have HO249:=mk0 (Kd.R_lower ho16 (kZ HB.out));replace HB:=mk0 (kS HB.out hb);clear hb ho16;have p14:0 ≤ (x6_1:Int):=oD;have q14:(x6_1:Int) < ((x11_1.length:Int):Int):=oD;obtain⟨go14,co14,eo14,gb14,gl14,cl14,HG14⟩:=Kd.S_form HO_11.out (by omega);(first|cases eo14|(injection eo14 with ea_ en_ ec_;(first|subst ea_|(injection ea_ with ea_;subst ea_));subst ec_;clear en_));have GB14:=mk0 gb14;have GG14:=mk0 HG14;clear gb14 gl14 HG14;obtain⟨_,ce14,hcl14,hM14,hcc14,hfr14,_,_⟩:=Kd.S_elem HO_11.out [] (x6_1:Int) p14 q14;obtain⟨ve14_0,rfl,ge14_0⟩:=hM14;have hx14_0:=hcc14 0 _ rfl;have hf14_0:=hfr14 0;(try simp only [show ((Kd.slice 3 (Kd.int .i64))).sz = 1 from rfl,Nat.mul_one,Nat.add_zero] at hx14_0);(try simp only [show ((Kd.slice 3 (Kd.int .i64))).sz = 1 from rfl,Nat.mul_one,Nat.add_zero] at hf14_0);clear hcl14 hcc14 hfr14;(try clear hM14);replace p14:=eq_true p14;replace q14:=eq_true q14;have n_:=mk0 (Kd.S_mono (ok':=(fun k_=>some k_ ≠ (v248:Value).ownBlock)) HO_11.out (fun k_ hk=>hk.2));clear HO_11;have HO_11:=n_;clear n_;have HX17:=mk0 (show Kd.S (Kd.slice 3 (Kd.int .i64)) 45 w15 w.heap.size (fun k_=>((fun _=>True)) k_ ∧ ¬ ((fun k_=>some k_ = (v248:Value).ownBlock)) k_) (.slice (some ⟨go14,0,none⟩) x11_1.length co14) x11_1 from (by (with_reducible repeat (first|apply aS|apply nS|apply dS));exact Kd.S_mono HO_11.out (fun k_ hk=>⟨trivial,fun e_=>hk e_⟩)));obtain⟨oki17,ce17,hcl17,hM17,hcc17,hfr17,hoki17,hH17⟩:=Kd.S_elem HX17.out [] (x6_1:Int) (oD) (by have h_:(x6_1:Int) < ((x11_1.length:Int):Int):=oD;first|exact h_|(have e_:=(Kd.S_reads' HO_11.out).1;omega)|simpa using h_);obtain⟨ve17_0,rfl,ge17_0⟩:=hM17;have HP17:=Kd.S_seg hH17 (oD) (by have h_:(x6_1:Int) < ((x11_1.length:Int):Int):=oD;first|exact h_|(have e_:=(Kd.S_reads' HO_11.out).1;omega)|simpa using h_) (seg:=[v248]) (j:=0) (show 1 ≤ 1 from by decide) (x':=y247) (Kd.M_row (Kd.R_mono (Kd.R_tight rfl (Kd.R_mono (ok':=fun k_=>((fun _=>True)) k_ ∧ k_ ≠ go14) (Kd.R_apart' (HO249.out) (Kd.S_typed HO_11.out) (by decide)) (fun k_ hk=>⟨trivial,fun e_=>(hk.2) (by rw [e_];rfl)⟩))) (fun _ h_=>Or.inr (h_)))) (fun _ hk=>hk) (fun k_ hk_=>((Kd.R_mono (ok':=fun k_=>((fun _=>True)) k_ ∧ k_ ≠ go14) (Kd.R_apart' (HO249.out) (Kd.S_typed HO_11.out) (by decide)) (fun k_ hk=>⟨trivial,fun e_=>(hk.2) (by rw [e_];rfl)⟩))).1 k_ hk_.symm);have hx17_0:=hcc17 0 _ rfl;(try simp only [show ((Kd.slice 3 (Kd.int .i64))).sz = 1 from rfl,Nat.mul_one,Nat.add_zero] at hx17_0);have hf17_0:=hfr17 0;(try simp only [show ((Kd.slice 3 (Kd.int .i64))).sz = 1 from rfl,Nat.mul_one,Nat.add_zero] at hf17_0);clear hcl17 hcc17 hfr17 hoki17 hH17;(try clear hM17);(try simp only [show ((Kd.slice 3 (Kd.int .i64))).sz = 1 from rfl,Nat.mul_one,Nat.add_zero] at HP17))|((with_reducible refine gate_store (t:=45) (p:=24) rfl ?_);refine store_event (t:=45) (p:=24) (v:=?vo_w18) (w1:=(w15.setCell ⟨go14,(x6_1:Int).toNat,none⟩ (v248))) ?hg ?ho ?hn ?hr ?_;(case ho=>rfl);(case hg=>rfl);(case hn=>rfl);(case hr=>first|(go_simp;done)|(go_simp;rfl)|(obtain⟨A0_,c0_,e0_⟩:∃ A c,v248 = Value.slice A (y247).length c:=(by first|exact Kd.R_slice HO249.out|exact Kd.S_slice HO249.out|exact Kd.N_slice HO249.out|exact Kd.V_slice HO249.out);rw [e0_];(first|(go_simp;done)|(go_simp;rfl)|(simp only [Int.toNat_natCast] at *;go_simp;done)|(simp only [Int.toNat_natCast] at *;go_simp;rfl))));intro w18 hw;have hg:w15.grownBy w18 (some go14):=(by rw [hw];exact HP17.2);have hp_:Kd.S (Kd.slice 3 (Kd.int .i64)) 45 w18 w.heap.size (fun _=>True) (.slice (some ⟨go14,0,none⟩) x11_1.length co14) y250:=(by rw [hw,Ny250.out];exact HP17.1);clear HP17;replace HO_11:=mk0 (hp_);replace HB:=mk0 ((by rw [hw];exact sZ (HB.out) GB14.out:Below w.heap.size w w18));clear HO249 hg hw hp_))
   go_loopg [7] k1 (fun kq v7 w'=>∃ (x7_2:Int) (x11_2:List (List Int)),v7 = .int .i64 x7_2 ∧ Aside0 (spec_l12Table.l1 kq l0 l1 x6_1 x7_2 x11_2 = some r) ∧ Aside0 (kq ≤ k1) ∧ Aside0 (Kd.S (Kd.slice 3 (Kd.int .i64)) 45 w' w.heap.size (fun _=>True) (.slice (some ⟨go14,0,none⟩) x11_1.length co14) x11_2) ∧ Aside0 (Below w.heap.size w w'))
   case atStart=>exact⟨((l1.length:Int)),(y250),eS,H',⟨Nat.le_refl _⟩,⟨rS HO_11.out⟩,⟨kB HB.out⟩⟩
   case round =>
    clear H'
    try clear c1
    try clear p1
    try clear q1
    try clear hx1
    try clear p2
    try clear c4
    try clear c4b0
    try clear c4b1
    try clear c5
    try clear c5b0
    try clear c5b1
    try clear p6
    try clear c8
    try clear c8b0
    try clear c10
    try clear c10b0
    try clear c10b1
    try clear c11
    try clear c11b0
    try clear c11b1
    try clear c12
    try clear c12b0
    try clear c13
    try clear c13b0
    try clear c14
    try clear p14
    try clear q14
    try clear hx14
    try clear hf14
    try clear c17
    try clear hx17
    try clear hf17
    try clear hx14_0
    try clear hx17_0
    try clear p14
    try clear p2
    try clear p6
    try clear q14
    obtain⟨x7_2,x11_2,rfl,HA,HK2,HO_11,HB⟩:=hrel
    have hl11_2:=(Kd.S_reads' HO_11.out).1
    rw [hl11_2] at HO_11
    (try simp only [hl11_2])
    cases gk with
    | zero=>exact absurd HA.out (by simp [spec_l12Table.l1])
    | succ k2 =>
     have H:=HA.out
     clear HA
     simp only [spec_l12Table.l1] at H
     by_cases c19:x7_2 ≥ 0
     rotate_left
     ·rw [if_neg c19] at H
      have c19b0:decide (0 ≤ x7_2) = false:=decide_eq_false c19
      clear c19
      have H':=mk0 H
      clear H
      go_wp2
      (try simp only [← hl11_2])
      go_roundg k2
      case measure=>have:=HK1.out;have:=HK2.out;omega
      case rel=>exact⟨(wrap64 (x6_1 - 1)),(x11_2),eS,H',⟨by have:=HK1.out;have:=HK2.out;omega⟩,⟨by (try simp only [hl11_2]);(with_reducible repeat (first|apply aS|apply nS|apply dS));exact HO_11.out⟩,⟨kB HB.out⟩⟩
     rw [if_pos c19] at H
     have c19b0:decide (0 ≤ x7_2) = true:=decide_eq_true c19
     clear c19
     have HC20:=mk0 H
     clear H
     go_upto_region 9 with (fail)
     go_cut [40] (fun v40 wc=>∃ (kq:Nat) (x40_19:Bool),v40 = .bool x40_19 ∧ Aside0 (spec_l12Table.j2 kq l0 l1 x11_2 x6_1 x7_2 x40_19 = some r) ∧ Aside0 (kq ≤ k2) ∧ Aside0 (Kd.S (Kd.slice 3 (Kd.int .i64)) 45 wc w.heap.size (fun _=>True) (.slice (some ⟨go14,0,none⟩) x11_2.length co14) x11_2) ∧ Aside0 (Below w.heap.size w wc))
     case first =>
      have H:=HC20.out
      clear HC20
      by_cases c21:x6_1 < (l0.length:Int)
      rotate_left
      ·rw [if_neg c21] at H
       have c21b0:decide (x6_1 < (l0.length:Int)) = false:=decide_eq_false c21
       (try simp only [hl11_2] at c21b0)
       (try simp only [hl251_0] at c21b0)
       (try simp only [hl252_0] at c21b0)
       (try simp only [hl254_0] at c21b0)
       (try simp only [hl261_0] at c21b0)
       (try simp only [hl262_0] at c21b0)
       (try simp only [hl264_0] at c21b0)
       clear c21
       (first|rw [c21b0]|(simp only [i64_w,i32_w];rw [c21b0])|skip)
       have H':=mk0 H
       clear H
       go_wp2
       go_meet
       case rel=>exact⟨_,(false),eS,H',⟨by have:=HK1.out;have:=HK2.out;first|omega|exact Nat.le_refl _⟩,⟨by (try simp only [hl11_2]);(with_reducible repeat (first|apply aS|apply nS|apply dS));exact HO_11.out⟩,⟨kB HB.out⟩⟩
      rw [if_pos c21] at H
      have c21b0:decide (x6_1 < (l0.length:Int)) = true:=decide_eq_true c21
      (try simp only [hl11_2] at c21b0)
      (try simp only [hl251_0] at c21b0)
      (try simp only [hl252_0] at c21b0)
      (try simp only [hl254_0] at c21b0)
      (try simp only [hl261_0] at c21b0)
      (try simp only [hl262_0] at c21b0)
      (try simp only [hl264_0] at c21b0)
      clear c21
      (first|rw [c21b0]|(simp only [i64_w,i32_w];rw [c21b0])|skip)
      have H':=mk0 H
      clear H
      go_wp2
      go_meet
      case rel=>exact⟨_,(decide (x7_2 < (l1.length:Int))),eS,H',⟨by have:=HK1.out;have:=HK2.out;first|omega|exact Nat.le_refl _⟩,⟨by (try simp only [hl11_2]);(with_reducible repeat (first|apply aS|apply nS|apply dS));exact HO_11.out⟩,⟨kB HB.out⟩⟩
     case rest =>
      clear HC20
      try clear c1
      try clear p1
      try clear q1
      try clear hx1
      try clear c2
      try clear p2
      try clear c4
      try clear c4b0
      try clear c4b1
      try clear c5
      try clear c5b0
      try clear c5b1
      try clear p6
      try clear c8
      try clear c8b0
      try clear c10
      try clear c10b0
      try clear c10b1
      try clear c11
      try clear c11b0
      try clear c11b1
      try clear c12
      try clear c12b0
      try clear c13
      try clear c13b0
      try clear c14
      try clear p14
      try clear q14
      try clear hx14
      try clear hf14
      try clear c17
      try clear hx17
      try clear hf17
      try clear c19
      try clear c19b0
      try clear c21
      try clear c21b0
      try clear hx14_0
      try clear hx17_0
      try clear p1
      try clear p14
      try clear p2
      try clear p6
      try clear q1
      try clear q14
      obtain⟨kq,x40_19,rfl,HA,HJ19,HO_5,HB⟩:=hcut
      cases kq with
      | zero=>exact absurd HA.out (by simp [spec_l12Table.j2])
      | succ kj19 =>
       have H:=HA.out
       clear HA
       simp only [spec_l12Table.j2] at H
       by_cases c22:x40_19 = true
       rotate_left
       ·replace c22:=Bool.eq_false_iff.mpr c22
        subst c22
        replace H:=iF H
        have H':=mk0 H
        clear H
        go_wp2
        (try simp only [← hl11_2])
        go_roundg kj19
        case measure=>have:=HK1.out;have:=HK2.out;have:=HJ19.out;omega
        case rel=>exact⟨(wrap64 (x7_2 - 1)),(x11_2),eS,H',⟨by have:=HK1.out;have:=HK2.out;have:=HJ19.out;omega⟩,⟨by (try simp only [hl11_2]);(with_reducible repeat (first|apply aS|apply nS|apply dS));exact HO_5.out⟩,⟨kB HB.out⟩⟩
       subst c22
       replace H:=iT H
       by_cases c23:0 ≤ x6_1
       rotate_left
       ·rw [if_neg c23] at H
        exact nn H
       rw [if_pos c23] at H
       have c23b0:decide (0 ≤ x6_1) = true:=decide_eq_true c23
       clear c23
       by_cases c24:x6_1 < (x11_2.length:Int)
       rotate_left
       ·rw [if_neg c24] at H
        exact nn H
       rw [if_pos c24] at H
       have c24b0:decide (x6_1 < (x11_2.length:Int)) = true:=decide_eq_true c24
       (try simp only [hl11_2] at c24b0)
       (try simp only [hl251_0] at c24b0)
       (try simp only [hl252_0] at c24b0)
       (try simp only [hl254_0] at c24b0)
       (try simp only [hl261_0] at c24b0)
       (try simp only [hl262_0] at c24b0)
       (try simp only [hl264_0] at c24b0)
       clear c24
       obtain⟨ji25,hji25⟩:∃ j_:Int,(wrap64 (x6_1 + 1)) = j_:=⟨_,rfl⟩
       first|rw [hji25] at H|simp only [hji25] at H
       have hji25w:(IntKind.i64.wrap (x6_1 + 1)) = ji25:=(i64_w _).trans hji25
       by_cases c26:0 ≤ (ji25)
       rotate_left
       ·rw [if_neg c26] at H
        exact nn H
       rw [if_pos c26] at H
       have c26b0:decide (0 ≤ (ji25)) = true:=decide_eq_true c26
       clear c26
       by_cases c27:(ji25) < (x11_2.length:Int)
       rotate_left
       ·rw [if_neg c27] at H
        exact nn H
       rw [if_pos c27] at H
       have c27b0:decide ((ji25) < (x11_2.length:Int)) = true:=decide_eq_true c27
       (try simp only [hl11_2] at c27b0)
       (try simp only [hl251_0] at c27b0)
       (try simp only [hl252_0] at c27b0)
       (try simp only [hl254_0] at c27b0)
       (try simp only [hl261_0] at c27b0)
       (try simp only [hl262_0] at c27b0)
       (try simp only [hl264_0] at c27b0)
       clear c27
       by_cases c28:0 ≤ x7_2
       rotate_left
       ·rw [if_neg c28] at H
        exact nn H
       rw [if_pos c28] at H
       have c28b0:decide (0 ≤ x7_2) = true:=decide_eq_true c28
       clear c28
       by_cases c29:x7_2 < ((rd_L4 x11_2 (ji25)).length:Int)
       rotate_left
       ·rw [if_neg c29] at H
        exact nn H
       rw [if_pos c29] at H
       have c29b0:decide (x7_2 < ((rd_L4 x11_2 (ji25)).length:Int)) = true:=decide_eq_true c29
       (try simp only [hl11_2] at c29b0)
       (try simp only [hl251_0] at c29b0)
       (try simp only [hl252_0] at c29b0)
       (try simp only [hl254_0] at c29b0)
       (try simp only [hl261_0] at c29b0)
       (try simp only [hl262_0] at c29b0)
       (try simp only [hl264_0] at c29b0)
       clear c29
       obtain⟨ji30,hji30⟩:∃ j_:Int,(wrap64 (x7_2 + 1)) = j_:=⟨_,rfl⟩
       first|rw [hji30] at H|simp only [hji30] at H
       have hji30w:(IntKind.i64.wrap (x7_2 + 1)) = ji30:=(i64_w _).trans hji30
       by_cases c31:0 ≤ (ji30)
       rotate_left
       ·rw [if_neg c31] at H
        exact nn H
       rw [if_pos c31] at H
       have c31b0:decide (0 ≤ (ji30)) = true:=decide_eq_true c31
       clear c31
       by_cases c32:(ji30) < ((rd_L4 x11_2 x6_1).length:Int)
       rotate_left
       ·rw [if_neg c32] at H
        exact nn H
       rw [if_pos c32] at H
       have c32b0:decide ((ji30) < ((rd_L4 x11_2 x6_1).length:Int)) = true:=decide_eq_true c32
       (try simp only [hl11_2] at c32b0)
       (try simp only [hl251_0] at c32b0)
       (try simp only [hl252_0] at c32b0)
       (try simp only [hl254_0] at c32b0)
       (try simp only [hl261_0] at c32b0)
       (try simp only [hl262_0] at c32b0)
       (try simp only [hl264_0] at c32b0)
       clear c32
       obtain⟨ji33,hji33⟩:∃ j_:Int,(mx (rd (rd_L4 x11_2 (ji25)) x7_2) (rd (rd_L4 x11_2 x6_1) (ji30))) = j_:=⟨_,rfl⟩
       first|rw [hji33] at H|simp only [hji33] at H
       have hji33_:(if (rd (rd_L4 x11_2 (ji25)) x7_2) < (rd (rd_L4 x11_2 x6_1) (ji30)) then (rd (rd_L4 x11_2 x6_1) (ji30)) else (rd (rd_L4 x11_2 (ji25)) x7_2)) = ji33:=hji33
       by_cases c34:x7_2 < ((rd_L4 x11_2 x6_1).length:Int)
       rotate_left
       ·rw [if_neg c34] at H
        exact nn H
       rw [if_pos c34] at H
       have c34b0:decide (x7_2 < ((rd_L4 x11_2 x6_1).length:Int)) = true:=decide_eq_true c34
       (try simp only [hl11_2] at c34b0)
       (try simp only [hl251_0] at c34b0)
       (try simp only [hl252_0] at c34b0)
       (try simp only [hl254_0] at c34b0)
       (try simp only [hl261_0] at c34b0)
       (try simp only [hl262_0] at c34b0)
       (try simp only [hl264_0] at c34b0)
       clear c34
       obtain⟨y256,hy256⟩:∃ y_:List Int,y_ = ((rd_L4 x11_2 x6_1).set (x7_2:Int).toNat (ji33)):=⟨_,rfl⟩
       first|(with_reducible replace H:=yB hy256 H)|rw [← hy256] at H|skip
       have Ny256:=mk0 hy256
       clear hy256
       obtain⟨y258,hy258⟩:∃ y_:List (List Int),y_ = (x11_2.set (x6_1:Int).toNat y256):=⟨_,rfl⟩
       first|(with_reducible replace H:=yB hy258 H)|rw [← hy258] at H|skip
       have Ny258:=mk0 hy258
       clear hy258
       by_cases c36:x6_1 < (l0.length:Int)
       rotate_left
       ·rw [if_neg c36] at H
        exact nn H
       rw [if_pos c36] at H
       have c36b0:decide (x6_1 < (l0.length:Int)) = true:=decide_eq_true c36
       (try simp only [hl11_2] at c36b0)
       (try simp only [hl251_0] at c36b0)
       (try simp only [hl252_0] at c36b0)
       (try simp only [hl254_0] at c36b0)
       (try simp only [hl261_0] at c36b0)
       (try simp only [hl262_0] at c36b0)
       (try simp only [hl264_0] at c36b0)
       clear c36
       by_cases c37:x7_2 < (l1.length:Int)
       rotate_left
       ·rw [if_neg c37] at H
        exact nn H
       rw [if_pos c37] at H
       have c37b0:decide (x7_2 < (l1.length:Int)) = true:=decide_eq_true c37
       (try simp only [hl11_2] at c37b0)
       (try simp only [hl251_0] at c37b0)
       (try simp only [hl252_0] at c37b0)
       (try simp only [hl254_0] at c37b0)
       (try simp only [hl261_0] at c37b0)
       (try simp only [hl262_0] at c37b0)
       (try simp only [hl264_0] at c37b0)
       clear c37
       by_cases c38:(rd l0 x6_1) = (rd l1 x7_2)
       rotate_left
       ·rw [if_neg c38] at H
        have c38b0:((rd l0 x6_1) == (rd l1 x7_2)) = false:=beq_eq_false_iff_ne.mpr c38
        have c38b1:((rd l0 x6_1) != (rd l1 x7_2)) = true:=bne_iff_ne.mpr c38
        have H':=mk0 H
        clear H
        try go_wp2
        replace HO_5:=mk0 (dS HO_5.out)
        replace HB:=mk0 (dZ HB.out)
        have p251:0 ≤ (x6_1:Int):=oD
        have q251:x6_1 < (x11_2.length:Int):=oD
        obtain⟨ad251,A251_0,c251_0,e251,hx251_0,hl251_0,hi251_0⟩:=at_L4 (Kd.S_reads' HO_5.out).2.2 x6_1 p251 q251
        obtain rfl:(⟨go14,0,none⟩:Addr) = ad251:=(by injection e251)
        obtain⟨ce251,hce251,hMe251,hcc251⟩:=Kd.S_get HO_5.out [] x6_1 p251 (by first|exact q251|exact oD|(have e_:=(Kd.S_reads' HO_5.out).1;omega))
        obtain⟨ve251_0,rfl,ge251_0⟩:=hMe251
        have hv251_0:=hcc251 0 _ rfl
        rw [Nat.add_zero,show ((Kd.slice 3 (Kd.int .i64))).sz = 1 from rfl,Nat.mul_one] at hv251_0
        replace hv251_0:=Option.some.inj (hv251_0.symm.trans hx251_0)
        rw [hv251_0] at ge251_0
        have HL251_0:=mk0 (show Kd.R (Kd.int .i64) 3 _ _ _ _ (rd_L4 x11_2 x6_1) from ge251_0)
        clear hv251_0 ge251_0
        have HX251_0:=mk0 hx251_0
        clear hcc251 hce251
        (first|simp only [add_plain] at hx251_0|simp only [add_at] at hx251_0|simp only [Addr.add,Nat.zero_add] at hx251_0|skip)
        have HR251_0:=mk0 hi251_0
        have HC251_0:=mk0 hl251_0
        clear hi251_0 hl251_0
        replace p251:=eq_true p251
        replace q251:=eq_true q251
        have p252:0 ≤ ((ji25):Int):=oD
        have q252:(ji25) < (x11_2.length:Int):=oD
        obtain⟨ad252,A252_0,c252_0,e252,hx252_0,hl252_0,hi252_0⟩:=at_L4 (Kd.S_reads' HO_5.out).2.2 (ji25) p252 q252
        obtain rfl:(⟨go14,0,none⟩:Addr) = ad252:=(by injection e252)
        obtain⟨ce252,hce252,hMe252,hcc252⟩:=Kd.S_get HO_5.out [] (ji25) p252 (by first|exact q252|exact oD|(have e_:=(Kd.S_reads' HO_5.out).1;omega))
        obtain⟨ve252_0,rfl,ge252_0⟩:=hMe252
        have hv252_0:=hcc252 0 _ rfl
        rw [Nat.add_zero,show ((Kd.slice 3 (Kd.int .i64))).sz = 1 from rfl,Nat.mul_one] at hv252_0
        replace hv252_0:=Option.some.inj (hv252_0.symm.trans hx252_0)
        rw [hv252_0] at ge252_0
        have HL252_0:=mk0 (show Kd.R (Kd.int .i64) 3 _ _ _ _ (rd_L4 x11_2 (ji25)) from ge252_0)
        clear hv252_0 ge252_0
        have HX252_0:=mk0 hx252_0
        clear hcc252 hce252
        (first|simp only [add_plain] at hx252_0|simp only [add_at] at hx252_0|simp only [Addr.add,Nat.zero_add] at hx252_0|skip)
        have HR252_0:=mk0 hi252_0
        have HC252_0:=mk0 hl252_0
        clear hi252_0 hl252_0
        replace p252:=eq_true p252
        replace q252:=eq_true q252
        have p253:0 ≤ (x7_2:Int):=oD
        have q253:x7_2 < ((rd_L4 x11_2 (ji25)).length:Int):=oD
        obtain⟨ad253,e253,hx253_0⟩:=Kd.at_int (by repeat (first|(with_reducible exact HR252_0.out)|(with_reducible first|apply aC|apply nC|apply dC)|exact HR252_0.out|exact (Kd.V_reads' HL252_0.out).2.2)) x7_2 p253 q253
        cases e253
        replace p253:=eq_true p253
        replace q253:=eq_true q253
        have p254:0 ≤ (x6_1:Int):=oD
        have q254:x6_1 < (x11_2.length:Int):=oD
        obtain⟨ad254,A254_0,c254_0,e254,hx254_0,hl254_0,hi254_0⟩:=at_L4 (Kd.S_reads' HO_5.out).2.2 x6_1 p254 q254
        obtain rfl:(⟨go14,0,none⟩:Addr) = ad254:=(by injection e254)
        obtain⟨ce254,hce254,hMe254,hcc254⟩:=Kd.S_get HO_5.out [] x6_1 p254 (by first|exact q254|exact oD|(have e_:=(Kd.S_reads' HO_5.out).1;omega))
        obtain⟨ve254_0,rfl,ge254_0⟩:=hMe254
        have hv254_0:=hcc254 0 _ rfl
        rw [Nat.add_zero,show ((Kd.slice 3 (Kd.int .i64))).sz = 1 from rfl,Nat.mul_one] at hv254_0
        replace hv254_0:=Option.some.inj (hv254_0.symm.trans hx254_0)
        rw [hv254_0] at ge254_0
        have HL254_0:=mk0 (show Kd.R (Kd.int .i64) 3 _ _ _ _ (rd_L4 x11_2 x6_1) from ge254_0)
        clear hv254_0 ge254_0
        have HX254_0:=mk0 hx254_0
        clear hcc254 hce254
        (first|simp only [add_plain] at hx254_0|simp only [add_at] at hx254_0|simp only [Addr.add,Nat.zero_add] at hx254_0|skip)
        have HR254_0:=mk0 hi254_0
        have HC254_0:=mk0 hl254_0
        clear hi254_0 hl254_0
        replace p254:=eq_true p254
        replace q254:=eq_true q254
        have ea_:=Option.some.inj (hx251_0.symm.trans hx254_0)
        injection ea_ with ea_ en_ ec_
        subst ea_
        subst ec_
        clear en_
        have p255:0 ≤ ((ji30):Int):=oD
        have q255:(ji30) < ((rd_L4 x11_2 x6_1).length:Int):=oD
        obtain⟨ad255,e255,hx255_0⟩:=Kd.at_int (by repeat (first|(with_reducible exact HR254_0.out)|(with_reducible first|apply aC|apply nC|apply dC)|exact HR254_0.out|exact (Kd.V_reads' HL254_0.out).2.2)) (ji30) p255 q255
        cases e255
        replace p255:=eq_true p255
        replace q255:=eq_true q255
        have p35:0 ≤ (x7_2:Int):=oD
        have q35:(x7_2:Int) < (((rd_L4 x11_2 x6_1).length:Int):Int):=oD
        obtain⟨go35,co35,eo35,gb35,gl35,cl35,HG35⟩:=Kd.R_form HL251_0.out (by omega)
        (first|cases eo35|(injection eo35 with ea_ en_ ec_;(first|subst ea_|(injection ea_ with ea_;subst ea_));subst ec_;clear en_))
        have GB35:=mk0 gb35
        have GG35:=mk0 HG35
        clear gb35 gl35 HG35
        (first|simp only [add_plain] at hx255_0|skip)
        obtain⟨hx35_0,hf35_0⟩:=Kd.R_celln 0 HL251_0.out (x7_2:Int) p35 q35
        replace p35:=eq_true p35
        replace q35:=eq_true q35
        have hq52:(x6_1:Int) < (x11_2.length:Int):=(by have h_:(x6_1:Int) < ((x11_2.length:Int):Int):=oD;first|exact h_|(have e_:=(Kd.S_reads' HO_5.out).1;omega)|simpa only [List.length_set,List.length_set] using h_)
        obtain⟨oki52,ce52,hcl52,hM52,hcc52,hok52,hbk52⟩:=Kd.S_borrow HO_5.out [] (x6_1:Int) (oD) (by first|exact hq52|(have e_:=(Kd.S_reads' HO_5.out).1;omega))
        obtain⟨ve52_0,rfl,ge52_0⟩:=hM52
        have hv52:=hcc52 0 _ rfl
        rw [Nat.add_zero,show ((Kd.slice 3 (Kd.int .i64))).sz = 1 from rfl,Nat.mul_one] at hv52
        replace hv52:=Option.some.inj (hv52.symm.trans HX251_0.out)
        subst hv52
        clear hcc52 hcl52
        replace ge52_0:=(show Kd.R (Kd.int .i64) 3 _ _ _ _ (rd_L4 x11_2 x6_1) from ge52_0)
        have HP52:=Kd.R_putg ge52_0 (x7_2:Int) ji33
        rw [← Ny256.out] at HP52
        have HS52:=hbk52 HP52.2 (fun k_ e_=>by injection e_ with e_;subst e_;exact ge52_0.1 _ rfl) (x':=y256) (Kd.M_row HP52.1)
        rw [← Ny258.out] at HS52
        have HQ52:=mk0 HS52
        clear HP52 HS52 hbk52 hok52
        refine start_ (n:=24) (S:=fun w'=>w'.cell? ⟨go14,(x6_1).toNat,none⟩ = some (.slice (some ⟨go35,0,none⟩) (rd_L4 x11_2 x6_1).length c251_0) ∧ w'.cell? ⟨go14,((ji25)).toNat,none⟩ = some (.slice (some ad253) (rd_L4 x11_2 (ji25)).length c252_0) ∧ w'.cell? (ad253.add (x7_2).toNat) = some (.int .i64 (rd (rd_L4 x11_2 (ji25)) x7_2)) ∧ w'.cell? ⟨go14,(x6_1).toNat,none⟩ = some (.slice (some ⟨go35,0,none⟩) (rd_L4 x11_2 x6_1).length c251_0) ∧ w'.cell? ⟨go35,((ji30)).toNat,none⟩ = some (.int .i64 (rd (rd_L4 x11_2 x6_1) (ji30)))) (ds:=[23]) (bm 24 0) (by kernel_rfl) rfl (by kernel_rfl) ⟨hx251_0,hx252_0,hx253_0,hx254_0,hx255_0⟩ (fun hHeld=>?_);refine with_tabW spec_l12Table.tab10 spec_l12Table.bits10 (fun HT_ HW_=>?_)
        generalize wc.drew = w51 at HO_5 HB GG35 HL251_0 HL252_0 HL254_0 HQ52 HR251_0 HR252_0 HR254_0 HX251_0 HX252_0 HX254_0 hf35_0 hx251_0 hx252_0 hx253_0 hx254_0 hx255_0 hx35_0 hHeld ⊢
        refine pU 0 (some 41) (bm 24 1) HT_ ?_
        refine pU 1 (some 42) (bm 24 3) HT_ ?_
        refine pU 2 (some 43) (bm 24 7) HT_ ?_
        refine pU 4 (some 45) (bm 24 23) HT_ ?_
        refine pU 5 (some 46) (bm 24 55) HT_ ?_
        refine pU 6 (some 47) (bm 24 119) HT_ ?_
        refine pU 7 (some 48) (bm 24 247) HT_ ?_
        refine pU 8 (some 49) (bm 24 503) HT_ ?_
        refine pU 10 (some 51) (bm 24 1527) HT_ ?_
        refine pU 13 (some 54) (bm 24 9719) HT_ ?_
        refine pU 14 (some 55) (bm 24 26103) HT_ ?_
        refine pU 15 (some 56) (bm 24 58871) HT_ ?_
        refine pU 17 (some 58) (bm 24 189943) HT_ ?_
        refine pU 18 (some 59) (bm 24 452087) HT_ ?_
        refine pT 3 (some 44) (bm 24 452095) HT_ HW_ hHeld ?_
        refine pT 9 (some 50) (bm 24 452607) HT_ HW_ hHeld ?_
        refine pU 11 (some 52) (bm 24 454655) HT_ ?_
        refine pT 12 (some 53) (bm 24 458751) HT_ HW_ hHeld ?_
        refine pT 16 (some 57) (bm 24 524287) HT_ HW_ hHeld ?_
        refine pU 19 (some 60) (bm 24 1048575) HT_ ?_
        refine pT 20 (some 61) (bm 24 2097151) HT_ HW_ hHeld ?_
        refine pU 21 (some 62) (bm 24 4194303) HT_ ?_
        refine pU 22 (some 63) (bm 24 8388607) HT_ ?_
        refine pL 23 none (bm 24 16777215) HT_ (fun K hK=>?_)
        refine skip_ (w1:=?_) (by rfl) rfl ?_ ?_
        rotate_left
        ·go_simp
         rfl
        refine hK.out _ _ ?_
        clear hK K
        refine pD HT_ ?_
        try go_wp2
        have n0_:Aside0 (Kd.S (Kd.slice 3 (Kd.int .i64)) 45 (w51.setCell ⟨go35,(x7_2:Int).toNat,none⟩ (.int .i64 ji33)) w.heap.size (fun _=>True) (.slice (some ⟨go14,0,none⟩) x11_2.length co14) y258):=⟨rS HQ52.out⟩
        have n1_:Aside0 (Below w.heap.size w (w51.setCell ⟨go35,(x7_2:Int).toNat,none⟩ (.int .i64 ji33))):=⟨kB HB.out⟩
        (try clear HO_5)
        (try clear HB)
        generalize (w51.setCell ⟨go35,(x7_2:Int).toNat,none⟩ (.int .i64 ji33)) = w54 at n0_ n1_ ⊢
        have HO_5:=n0_
        have HB:=n1_
        clear n0_ n1_
        replace HO_5:=mk0 (dS HO_5.out)
        replace HB:=mk0 (dZ HB.out)
        have p259:0 ≤ (x6_1:Int):=oD
        have q259:x6_1 < (l0.length:Int):=oD
        obtain⟨ad259,e259,hx259_0⟩:=Kd.at_int HR0.out x6_1 p259 q259
        have hw259_0:=hx259_0
        cases e259
        replace hx259_0:=(HB.out.cell (World.block_lt_of_cell? w _ hx259_0)).trans hx259_0
        replace p259:=eq_true p259
        replace q259:=eq_true q259
        have p260:0 ≤ (x7_2:Int):=oD
        have q260:x7_2 < (l1.length:Int):=oD
        obtain⟨ad260,e260,hx260_0⟩:=Kd.at_int HR1.out x7_2 p260 q260
        have hw260_0:=hx260_0
        cases e260
        replace hx260_0:=(HB.out.cell (World.block_lt_of_cell? w _ hx260_0)).trans hx260_0
        replace p260:=eq_true p260
        replace q260:=eq_true q260
        refine start_ (n:=9) (S:=fun w'=>w'.cell? (ad259.add (x6_1).toNat) = some (.int .i64 (rd l0 x6_1)) ∧ w'.cell? (ad260.add (x7_2).toNat) = some (.int .i64 (rd l1 x7_2))) (ds:=[]) (bm 9 0) (by kernel_rfl) rfl (by kernel_rfl) ⟨((HB.out.cell (World.block_lt_of_cell? w _ hw259_0)).trans hw259_0),((HB.out.cell (World.block_lt_of_cell? w _ hw260_0)).trans hw260_0)⟩ (fun hHeld=>?_);refine with_tabW spec_l12Table.tab11 spec_l12Table.bits11 (fun HT_ HW_=>?_)
        generalize w54.drew = w55 at HO_5 HB HQ52 hx259_0 hx260_0 hHeld ⊢
        refine pU 0 (some 64) (bm 9 1) HT_ ?_
        refine pU 1 (some 65) (bm 9 3) HT_ ?_
        refine pU 2 (some 66) (bm 9 7) HT_ ?_
        refine pU 4 (some 68) (bm 9 23) HT_ ?_
        refine pU 5 (some 69) (bm 9 55) HT_ ?_
        refine pU 6 (some 70) (bm 9 119) HT_ ?_
        refine pT 3 (some 67) (bm 9 127) HT_ HW_ hHeld ?_
        refine pT 7 (some 71) (bm 9 255) HT_ HW_ hHeld ?_
        refine pU 8 (some 72) (bm 9 511) HT_ ?_
        refine pD HT_ ?_
        try go_wp2
        (try simp only [← hl11_2])
        go_roundg kj19
        case measure=>have:=HK1.out;have:=HK2.out;have:=HJ19.out;omega
        case rel=>exact⟨(wrap64 (x7_2 - 1)),(y258),eS,H',⟨by have:=HK1.out;have:=HK2.out;have:=HJ19.out;omega⟩,⟨by (try simp only [hl11_2]);(with_reducible repeat (first|apply aS|apply nS|apply dS));exact HO_5.out⟩,⟨kB HB.out⟩⟩
       rw [if_pos c38] at H
       have c38b0:((rd l0 x6_1) == (rd l1 x7_2)) = true:=beq_iff_eq.mpr c38
       have c38b1:((rd l0 x6_1) != (rd l1 x7_2)) = false:=bne_eq_false_iff_eq.mpr c38
       clear c38
       by_cases c39:x7_2 < ((rd_L4 y258 x6_1).length:Int)
       rotate_left
       ·rw [if_neg c39] at H
        exact nn H
       rw [if_pos c39] at H
       have c39b0:decide (x7_2 < ((rd_L4 y258 x6_1).length:Int)) = true:=decide_eq_true c39
       (try simp only [hl11_2] at c39b0)
       (try simp only [hl251_0] at c39b0)
       (try simp only [hl252_0] at c39b0)
       (try simp only [hl254_0] at c39b0)
       (try simp only [hl261_0] at c39b0)
       (try simp only [hl262_0] at c39b0)
       (try simp only [hl264_0] at c39b0)
       clear c39
       by_cases c40:(ji30) < ((rd_L4 y258 (ji25)).length:Int)
       rotate_left
       ·rw [if_neg c40] at H
        exact nn H
       rw [if_pos c40] at H
       have c40b0:decide ((ji30) < ((rd_L4 y258 (ji25)).length:Int)) = true:=decide_eq_true c40
       (try simp only [hl11_2] at c40b0)
       (try simp only [hl251_0] at c40b0)
       (try simp only [hl252_0] at c40b0)
       (try simp only [hl254_0] at c40b0)
       (try simp only [hl261_0] at c40b0)
       (try simp only [hl262_0] at c40b0)
       (try simp only [hl264_0] at c40b0)
       clear c40
       obtain⟨ji41,hji41⟩:∃ j_:Int,(mx (rd (rd_L4 y258 x6_1) x7_2) (wrap64 (1 + (rd (rd_L4 y258 (ji25)) (ji30))))) = j_:=⟨_,rfl⟩
       first|rw [hji41] at H|simp only [hji41] at H
       have hji41_:(if (rd (rd_L4 y258 x6_1) x7_2) < (wrap64 (1 + (rd (rd_L4 y258 (ji25)) (ji30)))) then (wrap64 (1 + (rd (rd_L4 y258 (ji25)) (ji30)))) else (rd (rd_L4 y258 x6_1) x7_2)) = ji41:=hji41
       obtain⟨y266,hy266⟩:∃ y_:List Int,y_ = ((rd_L4 y258 x6_1).set (x7_2:Int).toNat (ji41)):=⟨_,rfl⟩
       first|(with_reducible replace H:=yB hy266 H)|rw [← hy266] at H|skip
       have Ny266:=mk0 hy266
       clear hy266
       obtain⟨y268,hy268⟩:∃ y_:List (List Int),y_ = (y258.set (x6_1:Int).toNat y266):=⟨_,rfl⟩
       first|(with_reducible replace H:=yB hy268 H)|rw [← hy268] at H|skip
       have Ny268:=mk0 hy268
       clear hy268
       have H':=mk0 H
       clear H
       try go_wp2
       replace HO_5:=mk0 (dS HO_5.out)
       replace HB:=mk0 (dZ HB.out)
       have p251:0 ≤ (x6_1:Int):=oD
       have q251:x6_1 < (x11_2.length:Int):=oD
       obtain⟨ad251,A251_0,c251_0,e251,hx251_0,hl251_0,hi251_0⟩:=at_L4 (Kd.S_reads' HO_5.out).2.2 x6_1 p251 q251
       obtain rfl:(⟨go14,0,none⟩:Addr) = ad251:=(by injection e251)
       obtain⟨ce251,hce251,hMe251,hcc251⟩:=Kd.S_get HO_5.out [] x6_1 p251 (by first|exact q251|exact oD|(have e_:=(Kd.S_reads' HO_5.out).1;omega))
       obtain⟨ve251_0,rfl,ge251_0⟩:=hMe251
       have hv251_0:=hcc251 0 _ rfl
       rw [Nat.add_zero,show ((Kd.slice 3 (Kd.int .i64))).sz = 1 from rfl,Nat.mul_one] at hv251_0
       replace hv251_0:=Option.some.inj (hv251_0.symm.trans hx251_0)
       rw [hv251_0] at ge251_0
       have HL251_0:=mk0 (show Kd.R (Kd.int .i64) 3 _ _ _ _ (rd_L4 x11_2 x6_1) from ge251_0)
       clear hv251_0 ge251_0
       have HX251_0:=mk0 hx251_0
       clear hcc251 hce251
       (first|simp only [add_plain] at hx251_0|simp only [add_at] at hx251_0|simp only [Addr.add,Nat.zero_add] at hx251_0|skip)
       have HR251_0:=mk0 hi251_0
       have HC251_0:=mk0 hl251_0
       clear hi251_0 hl251_0
       replace p251:=eq_true p251
       replace q251:=eq_true q251
       have p252:0 ≤ ((ji25):Int):=oD
       have q252:(ji25) < (x11_2.length:Int):=oD
       obtain⟨ad252,A252_0,c252_0,e252,hx252_0,hl252_0,hi252_0⟩:=at_L4 (Kd.S_reads' HO_5.out).2.2 (ji25) p252 q252
       obtain rfl:(⟨go14,0,none⟩:Addr) = ad252:=(by injection e252)
       obtain⟨ce252,hce252,hMe252,hcc252⟩:=Kd.S_get HO_5.out [] (ji25) p252 (by first|exact q252|exact oD|(have e_:=(Kd.S_reads' HO_5.out).1;omega))
       obtain⟨ve252_0,rfl,ge252_0⟩:=hMe252
       have hv252_0:=hcc252 0 _ rfl
       rw [Nat.add_zero,show ((Kd.slice 3 (Kd.int .i64))).sz = 1 from rfl,Nat.mul_one] at hv252_0
       replace hv252_0:=Option.some.inj (hv252_0.symm.trans hx252_0)
       rw [hv252_0] at ge252_0
       have HL252_0:=mk0 (show Kd.R (Kd.int .i64) 3 _ _ _ _ (rd_L4 x11_2 (ji25)) from ge252_0)
       clear hv252_0 ge252_0
       have HX252_0:=mk0 hx252_0
       clear hcc252 hce252
       (first|simp only [add_plain] at hx252_0|simp only [add_at] at hx252_0|simp only [Addr.add,Nat.zero_add] at hx252_0|skip)
       have HR252_0:=mk0 hi252_0
       have HC252_0:=mk0 hl252_0
       clear hi252_0 hl252_0
       replace p252:=eq_true p252
       replace q252:=eq_true q252
       have p253:0 ≤ (x7_2:Int):=oD
       have q253:x7_2 < ((rd_L4 x11_2 (ji25)).length:Int):=oD
       obtain⟨ad253,e253,hx253_0⟩:=Kd.at_int (by repeat (first|(with_reducible exact HR252_0.out)|(with_reducible first|apply aC|apply nC|apply dC)|exact HR252_0.out|exact (Kd.V_reads' HL252_0.out).2.2)) x7_2 p253 q253
       cases e253
       replace p253:=eq_true p253
       replace q253:=eq_true q253
       have p254:0 ≤ (x6_1:Int):=oD
       have q254:x6_1 < (x11_2.length:Int):=oD
       obtain⟨ad254,A254_0,c254_0,e254,hx254_0,hl254_0,hi254_0⟩:=at_L4 (Kd.S_reads' HO_5.out).2.2 x6_1 p254 q254
       obtain rfl:(⟨go14,0,none⟩:Addr) = ad254:=(by injection e254)
       obtain⟨ce254,hce254,hMe254,hcc254⟩:=Kd.S_get HO_5.out [] x6_1 p254 (by first|exact q254|exact oD|(have e_:=(Kd.S_reads' HO_5.out).1;omega))
       obtain⟨ve254_0,rfl,ge254_0⟩:=hMe254
       have hv254_0:=hcc254 0 _ rfl
       rw [Nat.add_zero,show ((Kd.slice 3 (Kd.int .i64))).sz = 1 from rfl,Nat.mul_one] at hv254_0
       replace hv254_0:=Option.some.inj (hv254_0.symm.trans hx254_0)
       rw [hv254_0] at ge254_0
       have HL254_0:=mk0 (show Kd.R (Kd.int .i64) 3 _ _ _ _ (rd_L4 x11_2 x6_1) from ge254_0)
       clear hv254_0 ge254_0
       have HX254_0:=mk0 hx254_0
       clear hcc254 hce254
       (first|simp only [add_plain] at hx254_0|simp only [add_at] at hx254_0|simp only [Addr.add,Nat.zero_add] at hx254_0|skip)
       have HR254_0:=mk0 hi254_0
       have HC254_0:=mk0 hl254_0
       clear hi254_0 hl254_0
       replace p254:=eq_true p254
       replace q254:=eq_true q254
       have ea_:=Option.some.inj (hx251_0.symm.trans hx254_0)
       injection ea_ with ea_ en_ ec_
       subst ea_
       subst ec_
       clear en_
       have p255:0 ≤ ((ji30):Int):=oD
       have q255:(ji30) < ((rd_L4 x11_2 x6_1).length:Int):=oD
       obtain⟨ad255,e255,hx255_0⟩:=Kd.at_int (by repeat (first|(with_reducible exact HR254_0.out)|(with_reducible first|apply aC|apply nC|apply dC)|exact HR254_0.out|exact (Kd.V_reads' HL254_0.out).2.2)) (ji30) p255 q255
       cases e255
       replace p255:=eq_true p255
       replace q255:=eq_true q255
       have p35:0 ≤ (x7_2:Int):=oD
       have q35:(x7_2:Int) < (((rd_L4 x11_2 x6_1).length:Int):Int):=oD
       obtain⟨go35,co35,eo35,gb35,gl35,cl35,HG35⟩:=Kd.R_form HL251_0.out (by omega)
       (first|cases eo35|(injection eo35 with ea_ en_ ec_;(first|subst ea_|(injection ea_ with ea_;subst ea_));subst ec_;clear en_))
       have GB35:=mk0 gb35
       have GG35:=mk0 HG35
       clear gb35 gl35 HG35
       (first|simp only [add_plain] at hx255_0|skip)
       obtain⟨hx35_0,hf35_0⟩:=Kd.R_celln 0 HL251_0.out (x7_2:Int) p35 q35
       replace p35:=eq_true p35
       replace q35:=eq_true q35
       have hq44:(x6_1:Int) < (x11_2.length:Int):=(by have h_:(x6_1:Int) < ((x11_2.length:Int):Int):=oD;first|exact h_|(have e_:=(Kd.S_reads' HO_5.out).1;omega)|simpa only [List.length_set,List.length_set] using h_)
       obtain⟨oki44,ce44,hcl44,hM44,hcc44,hok44,hbk44⟩:=Kd.S_borrow HO_5.out [] (x6_1:Int) (oD) (by first|exact hq44|(have e_:=(Kd.S_reads' HO_5.out).1;omega))
       obtain⟨ve44_0,rfl,ge44_0⟩:=hM44
       have hv44:=hcc44 0 _ rfl
       rw [Nat.add_zero,show ((Kd.slice 3 (Kd.int .i64))).sz = 1 from rfl,Nat.mul_one] at hv44
       replace hv44:=Option.some.inj (hv44.symm.trans HX251_0.out)
       subst hv44
       clear hcc44 hcl44
       replace ge44_0:=(show Kd.R (Kd.int .i64) 3 _ _ _ _ (rd_L4 x11_2 x6_1) from ge44_0)
       have HP44:=Kd.R_putg ge44_0 (x7_2:Int) ji33
       rw [← Ny256.out] at HP44
       have HS44:=hbk44 HP44.2 (fun k_ e_=>by injection e_ with e_;subst e_;exact ge44_0.1 _ rfl) (x':=y256) (Kd.M_row HP44.1)
       rw [← Ny258.out] at HS44
       have HQ44:=mk0 HS44
       clear HP44 HS44 hbk44 hok44
       refine start_ (n:=24) (S:=fun w'=>w'.cell? ⟨go14,(x6_1).toNat,none⟩ = some (.slice (some ⟨go35,0,none⟩) (rd_L4 x11_2 x6_1).length c251_0) ∧ w'.cell? ⟨go14,((ji25)).toNat,none⟩ = some (.slice (some ad253) (rd_L4 x11_2 (ji25)).length c252_0) ∧ w'.cell? (ad253.add (x7_2).toNat) = some (.int .i64 (rd (rd_L4 x11_2 (ji25)) x7_2)) ∧ w'.cell? ⟨go14,(x6_1).toNat,none⟩ = some (.slice (some ⟨go35,0,none⟩) (rd_L4 x11_2 x6_1).length c251_0) ∧ w'.cell? ⟨go35,((ji30)).toNat,none⟩ = some (.int .i64 (rd (rd_L4 x11_2 x6_1) (ji30)))) (ds:=[23]) (bm 24 0) (by kernel_rfl) rfl (by kernel_rfl) ⟨hx251_0,hx252_0,hx253_0,hx254_0,hx255_0⟩ (fun hHeld=>?_);refine with_tabW spec_l12Table.tab10 spec_l12Table.bits10 (fun HT_ HW_=>?_)
       generalize wc.drew = w43 at HO_5 HB GG35 HL251_0 HL252_0 HL254_0 HQ44 HR251_0 HR252_0 HR254_0 HX251_0 HX252_0 HX254_0 hf35_0 hx251_0 hx252_0 hx253_0 hx254_0 hx255_0 hx35_0 hHeld ⊢
       refine pU 0 (some 41) (bm 24 1) HT_ ?_
       refine pU 1 (some 42) (bm 24 3) HT_ ?_
       refine pU 2 (some 43) (bm 24 7) HT_ ?_
       refine pU 4 (some 45) (bm 24 23) HT_ ?_
       refine pU 5 (some 46) (bm 24 55) HT_ ?_
       refine pU 6 (some 47) (bm 24 119) HT_ ?_
       refine pU 7 (some 48) (bm 24 247) HT_ ?_
       refine pU 8 (some 49) (bm 24 503) HT_ ?_
       refine pU 10 (some 51) (bm 24 1527) HT_ ?_
       refine pU 13 (some 54) (bm 24 9719) HT_ ?_
       refine pU 14 (some 55) (bm 24 26103) HT_ ?_
       refine pU 15 (some 56) (bm 24 58871) HT_ ?_
       refine pU 17 (some 58) (bm 24 189943) HT_ ?_
       refine pU 18 (some 59) (bm 24 452087) HT_ ?_
       refine pT 3 (some 44) (bm 24 452095) HT_ HW_ hHeld ?_
       refine pT 9 (some 50) (bm 24 452607) HT_ HW_ hHeld ?_
       refine pU 11 (some 52) (bm 24 454655) HT_ ?_
       refine pT 12 (some 53) (bm 24 458751) HT_ HW_ hHeld ?_
       refine pT 16 (some 57) (bm 24 524287) HT_ HW_ hHeld ?_
       refine pU 19 (some 60) (bm 24 1048575) HT_ ?_
       refine pT 20 (some 61) (bm 24 2097151) HT_ HW_ hHeld ?_
       refine pU 21 (some 62) (bm 24 4194303) HT_ ?_
       refine pU 22 (some 63) (bm 24 8388607) HT_ ?_
       refine pL 23 none (bm 24 16777215) HT_ (fun K hK=>?_)
       refine skip_ (w1:=?_) (by rfl) rfl ?_ ?_
       rotate_left
       ·go_simp
        rfl
       refine hK.out _ _ ?_
       clear hK K
       refine pD HT_ ?_
       try go_wp2
       have n0_:Aside0 (Kd.S (Kd.slice 3 (Kd.int .i64)) 45 (w43.setCell ⟨go35,(x7_2:Int).toNat,none⟩ (.int .i64 ji33)) w.heap.size (fun _=>True) (.slice (some ⟨go14,0,none⟩) x11_2.length co14) y258):=⟨rS HQ44.out⟩
       have n1_:Aside0 (Below w.heap.size w (w43.setCell ⟨go35,(x7_2:Int).toNat,none⟩ (.int .i64 ji33))):=⟨kB HB.out⟩
       (try clear HO_5)
       (try clear HB)
       generalize (w43.setCell ⟨go35,(x7_2:Int).toNat,none⟩ (.int .i64 ji33)) = w46 at n0_ n1_ ⊢
       have HO_5:=n0_
       have HB:=n1_
       clear n0_ n1_
       replace HO_5:=mk0 (dS HO_5.out)
       replace HB:=mk0 (dZ HB.out)
       have p259:0 ≤ (x6_1:Int):=oD
       have q259:x6_1 < (l0.length:Int):=oD
       obtain⟨ad259,e259,hx259_0⟩:=Kd.at_int HR0.out x6_1 p259 q259
       have hw259_0:=hx259_0
       cases e259
       replace hx259_0:=(HB.out.cell (World.block_lt_of_cell? w _ hx259_0)).trans hx259_0
       replace p259:=eq_true p259
       replace q259:=eq_true q259
       have p260:0 ≤ (x7_2:Int):=oD
       have q260:x7_2 < (l1.length:Int):=oD
       obtain⟨ad260,e260,hx260_0⟩:=Kd.at_int HR1.out x7_2 p260 q260
       have hw260_0:=hx260_0
       cases e260
       replace hx260_0:=(HB.out.cell (World.block_lt_of_cell? w _ hx260_0)).trans hx260_0
       replace p260:=eq_true p260
       replace q260:=eq_true q260
       refine start_ (n:=9) (S:=fun w'=>w'.cell? (ad259.add (x6_1).toNat) = some (.int .i64 (rd l0 x6_1)) ∧ w'.cell? (ad260.add (x7_2).toNat) = some (.int .i64 (rd l1 x7_2))) (ds:=[]) (bm 9 0) (by kernel_rfl) rfl (by kernel_rfl) ⟨((HB.out.cell (World.block_lt_of_cell? w _ hw259_0)).trans hw259_0),((HB.out.cell (World.block_lt_of_cell? w _ hw260_0)).trans hw260_0)⟩ (fun hHeld=>?_);refine with_tabW spec_l12Table.tab11 spec_l12Table.bits11 (fun HT_ HW_=>?_)
       generalize w46.drew = w47 at HO_5 HB HQ44 hx259_0 hx260_0 hHeld ⊢
       refine pU 0 (some 64) (bm 9 1) HT_ ?_
       refine pU 1 (some 65) (bm 9 3) HT_ ?_
       refine pU 2 (some 66) (bm 9 7) HT_ ?_
       refine pU 4 (some 68) (bm 9 23) HT_ ?_
       refine pU 5 (some 69) (bm 9 55) HT_ ?_
       refine pU 6 (some 70) (bm 9 119) HT_ ?_
       refine pT 3 (some 67) (bm 9 127) HT_ HW_ hHeld ?_
       refine pT 7 (some 71) (bm 9 255) HT_ HW_ hHeld ?_
       refine pU 8 (some 72) (bm 9 511) HT_ ?_
       refine pD HT_ ?_
       try go_wp2
       replace HO_5:=mk0 (dS HO_5.out)
       replace HB:=mk0 (dZ HB.out)
       have p261:0 ≤ (x6_1:Int):=oD
       have q261:x6_1 < (y258.length:Int):=(by have h_:(x6_1:Int) < ((x11_2.length:Int):Int):=oD;first|(have e_:=(Kd.S_reads' HO_5.out).1;omega)|simpa only [Ny258.out,List.length_set] using h_)
       have ql261:((x6_1:Int) < ((x11_2.length:Int):Int)) = True:=eq_true (oD)
       obtain⟨ad261,A261_0,c261_0,e261,hx261_0,hl261_0,hi261_0⟩:=at_L4 (Kd.S_reads' HO_5.out).2.2 x6_1 p261 q261
       obtain rfl:(⟨go14,0,none⟩:Addr) = ad261:=(by injection e261)
       obtain⟨ce261,hce261,hMe261,hcc261⟩:=Kd.S_get HO_5.out [] x6_1 p261 (by first|exact q261|exact oD|(have e_:=(Kd.S_reads' HO_5.out).1;omega))
       obtain⟨ve261_0,rfl,ge261_0⟩:=hMe261
       have hv261_0:=hcc261 0 _ rfl
       rw [Nat.add_zero,show ((Kd.slice 3 (Kd.int .i64))).sz = 1 from rfl,Nat.mul_one] at hv261_0
       replace hv261_0:=Option.some.inj (hv261_0.symm.trans hx261_0)
       rw [hv261_0] at ge261_0
       have HL261_0:=mk0 (show Kd.R (Kd.int .i64) 3 _ _ _ _ (rd_L4 y258 x6_1) from ge261_0)
       clear hv261_0 ge261_0
       have HX261_0:=mk0 hx261_0
       clear hcc261 hce261
       (first|simp only [add_plain] at hx261_0|simp only [add_at] at hx261_0|simp only [Addr.add,Nat.zero_add] at hx261_0|skip)
       have HR261_0:=mk0 hi261_0
       have HC261_0:=mk0 hl261_0
       clear hi261_0 hl261_0
       replace p261:=eq_true p261
       replace q261:=eq_true q261
       have p262:0 ≤ (x6_1:Int):=oD
       have q262:x6_1 < (y258.length:Int):=(by have h_:(x6_1:Int) < ((x11_2.length:Int):Int):=oD;first|(have e_:=(Kd.S_reads' HO_5.out).1;omega)|simpa only [Ny258.out,List.length_set] using h_)
       have ql262:((x6_1:Int) < ((x11_2.length:Int):Int)) = True:=eq_true (oD)
       obtain⟨ad262,A262_0,c262_0,e262,hx262_0,hl262_0,hi262_0⟩:=at_L4 (Kd.S_reads' HO_5.out).2.2 x6_1 p262 q262
       obtain rfl:(⟨go14,0,none⟩:Addr) = ad262:=(by injection e262)
       obtain⟨ce262,hce262,hMe262,hcc262⟩:=Kd.S_get HO_5.out [] x6_1 p262 (by first|exact q262|exact oD|(have e_:=(Kd.S_reads' HO_5.out).1;omega))
       obtain⟨ve262_0,rfl,ge262_0⟩:=hMe262
       have hv262_0:=hcc262 0 _ rfl
       rw [Nat.add_zero,show ((Kd.slice 3 (Kd.int .i64))).sz = 1 from rfl,Nat.mul_one] at hv262_0
       replace hv262_0:=Option.some.inj (hv262_0.symm.trans hx262_0)
       rw [hv262_0] at ge262_0
       have HL262_0:=mk0 (show Kd.R (Kd.int .i64) 3 _ _ _ _ (rd_L4 y258 x6_1) from ge262_0)
       clear hv262_0 ge262_0
       have HX262_0:=mk0 hx262_0
       clear hcc262 hce262
       (first|simp only [add_plain] at hx262_0|simp only [add_at] at hx262_0|simp only [Addr.add,Nat.zero_add] at hx262_0|skip)
       have HR262_0:=mk0 hi262_0
       have HC262_0:=mk0 hl262_0
       clear hi262_0 hl262_0
       replace p262:=eq_true p262
       replace q262:=eq_true q262
       have ea_:=Option.some.inj (hx261_0.symm.trans hx262_0)
       injection ea_ with ea_ en_ ec_
       subst ea_
       subst ec_
       clear en_
       have p263:0 ≤ (x7_2:Int):=oD
       have q263:x7_2 < ((rd_L4 y258 x6_1).length:Int):=oD
       obtain⟨ad263,e263,hx263_0⟩:=Kd.at_int (by repeat (first|(with_reducible exact HR262_0.out)|(with_reducible first|apply aC|apply nC|apply dC)|exact HR262_0.out|exact (Kd.V_reads' HL262_0.out).2.2)) x7_2 p263 q263
       cases e263
       replace p263:=eq_true p263
       replace q263:=eq_true q263
       have p264:0 ≤ ((ji25):Int):=oD
       have q264:(ji25) < (y258.length:Int):=(by have h_:((ji25):Int) < ((x11_2.length:Int):Int):=oD;first|(have e_:=(Kd.S_reads' HO_5.out).1;omega)|simpa only [Ny258.out,List.length_set] using h_)
       have ql264:(((ji25):Int) < ((x11_2.length:Int):Int)) = True:=eq_true (oD)
       obtain⟨ad264,A264_0,c264_0,e264,hx264_0,hl264_0,hi264_0⟩:=at_L4 (Kd.S_reads' HO_5.out).2.2 (ji25) p264 q264
       obtain rfl:(⟨go14,0,none⟩:Addr) = ad264:=(by injection e264)
       obtain⟨ce264,hce264,hMe264,hcc264⟩:=Kd.S_get HO_5.out [] (ji25) p264 (by first|exact q264|exact oD|(have e_:=(Kd.S_reads' HO_5.out).1;omega))
       obtain⟨ve264_0,rfl,ge264_0⟩:=hMe264
       have hv264_0:=hcc264 0 _ rfl
       rw [Nat.add_zero,show ((Kd.slice 3 (Kd.int .i64))).sz = 1 from rfl,Nat.mul_one] at hv264_0
       replace hv264_0:=Option.some.inj (hv264_0.symm.trans hx264_0)
       rw [hv264_0] at ge264_0
       have HL264_0:=mk0 (show Kd.R (Kd.int .i64) 3 _ _ _ _ (rd_L4 y258 (ji25)) from ge264_0)
       clear hv264_0 ge264_0
       have HX264_0:=mk0 hx264_0
       clear hcc264 hce264
       (first|simp only [add_plain] at hx264_0|simp only [add_at] at hx264_0|simp only [Addr.add,Nat.zero_add] at hx264_0|skip)
       have HR264_0:=mk0 hi264_0
       have HC264_0:=mk0 hl264_0
       clear hi264_0 hl264_0
       replace p264:=eq_true p264
       replace q264:=eq_true q264
       have p265:0 ≤ ((ji30):Int):=oD
       have q265:(ji30) < ((rd_L4 y258 (ji25)).length:Int):=oD
       obtain⟨ad265,e265,hx265_0⟩:=Kd.at_int (by repeat (first|(with_reducible exact HR264_0.out)|(with_reducible first|apply aC|apply nC|apply dC)|exact HR264_0.out|exact (Kd.V_reads' HL264_0.out).2.2)) (ji30) p265 q265
       cases e265
       replace p265:=eq_true p265
       replace q265:=eq_true q265
       have p42:0 ≤ (x7_2:Int):=oD
       have q42:(x7_2:Int) < (((rd_L4 y258 x6_1).length:Int):Int):=oD
       obtain⟨go42,co42,eo42,gb42,gl42,cl42,HG42⟩:=Kd.R_form HL261_0.out (by omega)
       (first|cases eo42|(injection eo42 with ea_ en_ ec_;(first|subst ea_|(injection ea_ with ea_;subst ea_));subst ec_;clear en_))
       have GB42:=mk0 gb42
       have GG42:=mk0 HG42
       clear gb42 gl42 HG42
       (first|simp only [add_plain] at hx263_0|skip)
       obtain⟨hx42_0,hf42_0⟩:=Kd.R_celln 0 HL261_0.out (x7_2:Int) p42 q42
       replace p42:=eq_true p42
       replace q42:=eq_true q42
       have hq49:(x6_1:Int) < (y258.length:Int):=(by have h_:(x6_1:Int) < ((x11_2.length:Int):Int):=oD;first|exact h_|(have e_:=(Kd.S_reads' HO_5.out).1;omega)|simpa only [Ny258.out,List.length_set] using h_)
       obtain⟨oki49,ce49,hcl49,hM49,hcc49,hok49,hbk49⟩:=Kd.S_borrow HO_5.out [] (x6_1:Int) (oD) (by first|exact hq49|(have e_:=(Kd.S_reads' HO_5.out).1;omega))
       obtain⟨ve49_0,rfl,ge49_0⟩:=hM49
       have hv49:=hcc49 0 _ rfl
       rw [Nat.add_zero,show ((Kd.slice 3 (Kd.int .i64))).sz = 1 from rfl,Nat.mul_one] at hv49
       replace hv49:=Option.some.inj (hv49.symm.trans HX261_0.out)
       subst hv49
       clear hcc49 hcl49
       replace ge49_0:=(show Kd.R (Kd.int .i64) 3 _ _ _ _ (rd_L4 y258 x6_1) from ge49_0)
       have HP49:=Kd.R_putg ge49_0 (x7_2:Int) ji41
       rw [← Ny266.out] at HP49
       have HS49:=hbk49 HP49.2 (fun k_ e_=>by injection e_ with e_;subst e_;exact ge49_0.1 _ rfl) (x':=y266) (Kd.M_row HP49.1)
       rw [← Ny268.out] at HS49
       have HQ49:=mk0 HS49
       clear HP49 HS49 hbk49 hok49
       refine start_ (n:=25) (S:=fun w'=>w'.cell? ⟨go14,(x6_1).toNat,none⟩ = some (.slice (some ⟨go42,0,none⟩) (rd_L4 y258 x6_1).length c261_0) ∧ w'.cell? ⟨go14,(x6_1).toNat,none⟩ = some (.slice (some ⟨go42,0,none⟩) (rd_L4 y258 x6_1).length c261_0) ∧ w'.cell? ⟨go42,(x7_2).toNat,none⟩ = some (.int .i64 (rd (rd_L4 y258 x6_1) x7_2)) ∧ w'.cell? ⟨go14,((ji25)).toNat,none⟩ = some (.slice (some ad265) (rd_L4 y258 (ji25)).length c264_0) ∧ w'.cell? (ad265.add ((ji30)).toNat) = some (.int .i64 (rd (rd_L4 y258 (ji25)) (ji30)))) (ds:=[24]) (bm 25 0) (by kernel_rfl) rfl (by kernel_rfl) ⟨hx261_0,hx262_0,hx263_0,hx264_0,hx265_0⟩ (fun hHeld=>?_);refine with_tabW spec_l12Table.tab12 spec_l12Table.bits12 (fun HT_ HW_=>?_)
       generalize w47.drew = w48 at HO_5 HB GG42 HL261_0 HL262_0 HL264_0 HQ49 HR261_0 HR262_0 HR264_0 HX261_0 HX262_0 HX264_0 hf42_0 hx261_0 hx262_0 hx263_0 hx264_0 hx265_0 hx42_0 hHeld ⊢
       refine pU 0 (some 73) (bm 25 1) HT_ ?_
       refine pU 1 (some 74) (bm 25 3) HT_ ?_
       refine pU 2 (some 75) (bm 25 7) HT_ ?_
       refine pU 4 (some 77) (bm 25 23) HT_ ?_
       refine pU 5 (some 78) (bm 25 55) HT_ ?_
       refine pU 6 (some 79) (bm 25 119) HT_ ?_
       refine pU 7 (some 80) (bm 25 247) HT_ ?_
       refine pU 9 (some 82) (bm 25 759) HT_ ?_
       refine pU 12 (some 85) (bm 25 4855) HT_ ?_
       refine pU 13 (some 86) (bm 25 13047) HT_ ?_
       refine pU 14 (some 87) (bm 25 29431) HT_ ?_
       refine pU 15 (some 88) (bm 25 62199) HT_ ?_
       refine pU 17 (some 90) (bm 25 193271) HT_ ?_
       refine pU 18 (some 91) (bm 25 455415) HT_ ?_
       refine pT 3 (some 76) (bm 25 455423) HT_ HW_ hHeld ?_
       refine pT 8 (some 81) (bm 25 455679) HT_ HW_ hHeld ?_
       refine pU 10 (some 83) (bm 25 456703) HT_ ?_
       refine pT 11 (some 84) (bm 25 458751) HT_ HW_ hHeld ?_
       refine pT 16 (some 89) (bm 25 524287) HT_ HW_ hHeld ?_
       refine pU 19 (some 92) (bm 25 1048575) HT_ ?_
       refine pT 20 (some 93) (bm 25 2097151) HT_ HW_ hHeld ?_
       refine pU 21 (some 94) (bm 25 4194303) HT_ ?_
       refine pU 22 (some 95) (bm 25 8388607) HT_ ?_
       refine pU 23 (some 96) (bm 25 16777215) HT_ ?_
       refine pL 24 none (bm 25 33554431) HT_ (fun K hK=>?_)
       refine skip_ (w1:=?_) (by rfl) rfl ?_ ?_
       rotate_left
       ·go_simp
        rfl
       refine hK.out _ _ ?_
       clear hK K
       refine pD HT_ ?_
       try go_wp2
       (try simp only [← hl11_2])
       go_roundg kj19
       case measure=>have:=HK1.out;have:=HK2.out;have:=HJ19.out;omega
       case rel=>exact⟨(wrap64 (x7_2 - 1)),(y268),eS,H',⟨by have:=HK1.out;have:=HK2.out;have:=HJ19.out;omega⟩,⟨by (try simp only [hl11_2]);(with_reducible repeat (first|apply aS|apply nS|apply dS));exact HQ49.out⟩,⟨kB HB.out⟩⟩
end Go.Proofs.Ytadhngelhognaaa.QFnShare
