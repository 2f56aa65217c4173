-- A walk, made by walk.py, a program of this session's.
import Derived.Test.YtadhngelhognaaaQFnSharex0
import Derived.Test.YtadhngelhognaaaQFnSharex1
import Derived.Test.YtadhngelhognaaaQFnSharex3
import Derived.Test.YtadhngelhognaaaQFnSharex4
import Derived.Test.YtadhngelhognaaaQFnSharex6
namespace Go.Proofs.Ytadhngelhognaaa.QFnShare
open Go.RowKit Go.Proofs.YtadhngelhognaaaW.PrintWords Go.Proofs.YtadhngelhognaaaW.PrintLast Go.Proofs.YtadhngelhognaaaW.PrintMore
attribute [local go_sem] max2_int min2_int max_two min_two max_three min_three max_four min_four   -- for this text's walks alone
set_option linter.unusedVariables false
set_option linter.unusedSimpArgs false
/-! ### spec_ShareOf: function 13 -/
mutual
def spec_ShareOf.l0 : Nat → Int → List (S56) → Int → List (S48) → List Int → List Int → Option ((List (S56)))
 | 0, _, _, _, _, _, _ => none
 | k + 1, x3, x9, x13, x21, x23, x25 => if x13 < (x21.length : Int) then (if 0 ≤ x13 then (if 0 ≤ ((rd_T48 x21 x13).f1) then (if ((rd_T48 x21 x13).f1) ≤ ((rd_T48 x21 x13).f2) then (if ((rd_T48 x21 x13).f2) ≤ (x23.length : Int) then (if 0 ≤ ((rd_T48 x21 x13).f3) then (if ((rd_T48 x21 x13).f3) ≤ ((rd_T48 x21 x13).f4) then (if ((rd_T48 x21 x13).f4) ≤ (x25.length : Int) then ((spec_CommonWithin.f k ((x23.take (((rd_T48 x21 x13).f2) : Int).toNat).drop (((rd_T48 x21 x13).f1) : Int).toNat) ((x25.take (((rd_T48 x21 x13).f4) : Int).toNat).drop (((rd_T48 x21 x13).f3) : Int).toNat) x3).bind fun t323 => (spec_ShareOf.l1 k x3 x9 x13 0 x21 x23 x25 t323 ((rd_T48 x21 x13).f0) ((rd_T48 x21 x13).f1) ((rd_T48 x21 x13).f2) ((rd_T48 x21 x13).f3) ((rd_T48 x21 x13).f4))) else (none)) else (none)) else (none)) else (none)) else (none)) else (none)) else (none)) else (some x9)
def spec_ShareOf.l1 : Nat → Int → List (S56) → Int → Int → List (S48) → List Int → List Int → List (S56) → List Int → Int → Int → Int → Int → Option ((List (S56)))
 | 0, _, _, _, _, _, _, _, _, _, _, _, _, _ => none
 | k + 1, x3, x9, x13, x16, x21, x23, x25, x49, x313000, x313001, x313002, x313003, x313004 => if x16 < (x49.length : Int) then (if 0 ≤ x16 then (if x9.length < 8796093022208 then (spec_ShareOf.l1 k x3 (x9 ++ [(⟨wrap64 (((rd_T56 x49 x16).f0) + x313001), wrap64 (((rd_T56 x49 x16).f1) + x313003)⟩ : S56)]) x13 (wrap64 (x16 + 1)) x21 x23 x25 x49 x313000 x313001 x313002 x313003 x313004) else (none)) else (none)) else (spec_ShareOf.l0 k x3 x9 (wrap64 (x13 + 1)) x21 x23 x25)
end
def spec_ShareOf.f (k : Nat) (l0 : List Int) (l1 : List Int) (a2 : Int) (a3 : Int) : Option ((List (S56))) := (spec_Parts.f k l0 l1 a2).bind fun t302 => ((spec_BwtOf.f k l0).bind fun t305 => ((spec_BwtOf.f k l1).bind fun t308 => (spec_ShareOf.l0 k a3 (([] : List (S56))) 0 t302 t305 t308)))
def spec_ShareOf.T9 : Bool × List (List Nat × List Nat) := (true, [([], []), ([], []), ([1], [1]), ([], []), ([3], [3]), ([0, 2, 4], [0, 2, 4]), ([], []), ([], []), ([7], [7]), ([], []), ([9], [9]), ([6, 8, 10], [6, 8, 10]), ([], []), ([5, 11, 12], [5, 11, 12]), ([13, 13, 0, 1, 2, 3, 4, 5, 6, 7, 8, 9, 10, 11, 12, 13], [13])])
def spec_ShareOf.B9 : List Nat := [0, 0, 2, 0, 8, 31, 0, 0, 128, 0, 512, 1984, 0, 8191, 16383]
theorem spec_ShareOf.tab9 : rtab .any (opsOf Try.f13 9) = spec_ShareOf.T9 := by kernel_rfl
theorem spec_ShareOf.bits9 : waitsOk spec_ShareOf.T9.2 spec_ShareOf.B9 = true := by kernel_rfl
def spec_ShareOf.T13 : Bool × List (List Nat × List Nat) := (true, [([], []), ([], []), ([], []), ([1, 2], [1, 2]), ([3], [3]), ([4], [4]), ([], []), ([6], [6]), ([5, 7], [5, 7]), ([], []), ([], []), ([9, 10], [9, 10]), ([11], [11]), ([12], [12]), ([], []), ([14], [14]), ([13, 15], [13, 15]), ([8, 16], [8, 16]), ([17], [17]), ([0, 18], [0, 18]), ([19, 19, 0, 1, 2, 3, 4, 5, 6, 7, 8, 9, 10, 11, 12, 13, 14, 15, 16, 17, 18, 19], [0, 19])])
def spec_ShareOf.B13 : List Nat := [0, 0, 0, 6, 14, 30, 0, 64, 254, 0, 0, 1536, 3584, 7680, 0, 16384, 65024, 131070, 262142, 524287, 1048575]
theorem spec_ShareOf.tab13 : rtab .any (opsOf Try.f13 13) = spec_ShareOf.T13 := by kernel_rfl
theorem spec_ShareOf.bits13 : waitsOk spec_ShareOf.T13.2 spec_ShareOf.B13 = true := by kernel_rfl
set_option maxHeartbeats 8000000 in
set_option maxRecDepth 100000 in
theorem spec_ShareOf.calls (k : Nat) (A0 : Option Addr) (c0 : Nat) (l0 : List Int) (A1 : Option Addr) (c1 : Nat) (l1 : List Int) (a2 : Int) (a3 : Int) (r : List (S56)) (w : World) (hr0 : Kd.C (Kd.int .u8) w A0 l0.length l0) (hc0 : l0.length ≤ c0) (hr1 : Kd.C (Kd.int .u8) w A1 l1.length l1) (hc1 : l1.length ≤ c1) (h : spec_ShareOf.f k l0 l1 a2 a3 = some r) :
  Calls Try.prog 13 #[.slice A0 l0.length c0, .slice A1 l1.length c1, .int .i64 a2, .int .i64 a3] w fun e w' => ∃ v0_ : Value, e = .returned (v0_) ∧ Kd.R k56 56 w' w.heap.size (fun _ => True) v0_ r ∧ Below w.heap.size w w' := by
 have hu48:=Try.underlying48
 have hu56:=Try.underlying56
 have HR0:=mk0 hr0
 have HC0:=mk0 hc0
 clear hr0 hc0
 have HR1:=mk0 hr1
 have HC1:=mk0 hc1
 clear hr1 hc1
 have HB:=mk0 (Below.refl w.heap.size w)
 have H:((spec_Parts.f k l0 l1 a2).bind fun t302=>((spec_BwtOf.f k l0).bind fun t305=>((spec_BwtOf.f k l1).bind fun t308=>(spec_ShareOf.l0 k a3 (([]:List (S56))) 0 t302 t305 t308)))) = some r:=h
 clear h
 obtain⟨y299,hy299⟩:∃ y_:List (S56),y_ = (([]:List (S56))):=⟨_,rfl⟩
 first|(with_reducible replace H:=yB hy299 H)|rw [← hy299] at H|skip
 have Ny299:=mk0 hy299
 clear hy299
 replace H:=bE H
 obtain⟨t302,A5,H⟩:=H
 replace H:=bE H
 obtain⟨t305,A6,H⟩:=H
 replace H:=bE H
 obtain⟨t308,A7,H⟩:=H
 have H':=mk0 H
 clear H
 go_enter Try.func13,Try.ntmps13
 go_wp2_with (first|((with_reducible refine gate_dst (N:=17) rfl ?_);refine Kd.R_lit k56 _ 56 ?hg (N:=17) ?hd (xs:=([]:List (S56))) (inner:=[]) (ok:=fun _=>True) (okp:=fun _=>True) ?hr ?hp (fun _ hk=>hk) trivial (Below.refl _ _) (Nat.le_refl _) (by simp) ?_;(case hd=>rfl);(case hg=>rfl);(case hr=>first|(go_simp;done)|(go_simp;rfl));(case hp=>exact (Reps.none _ _));intro v300 w8 ho9 hb hg_ hnew_;clear hg_ hnew_;(first|rw [← Ny299.out] at ho9|(simp only [Int.reduceToNat] at ho9;rw [← Ny299.out] at ho9));have HO301:=mk0 (Kd.R_lower ho9 (kZ HB.out));replace HB:=mk0 (kS HB.out hb);clear hb ho9)|((with_reducible refine gate_callee (f:=27) rfl ?_);refine gL (some 21) Try.func27 #[.slice A0 l0.length c0,.slice A1 l1.length c1,.int .i64 a2] ?_;(with_reducible refine (spec_Parts.calls k (fun k_=>k_ < w.heap.size) _ _ l0 (fun k_=>k_ < w.heap.size) _ _ l1 a2 t302 _ ?side1 ?side2 A5.out).mono ?_);(case side1=>exact Kd.V_mk HC0.out (Kd.F_below (Kd.C_F (Kd.heap_int .u8) HR0.out) (kB HB.out)));(case side2=>exact Kd.V_mk HC1.out (Kd.F_below (Kd.C_F (Kd.heap_int .u8) HR1.out) (kB HB.out)));rintro e w10 ⟨v303,rfl,ho0,hb⟩;refine⟨_,rfl,?_⟩;have HO304:=mk0 (Kd.N_lower (Kd.N_mono (ok':=fun k_=>some k_ ≠ (v300:Value).ownBlock) ho0 (fun k_ hk_=>Or.elim hk_ (fun hs_=>Or.elim hs_ (fun hs_=>fun e_=>Nat.not_le.2 hs_ (Kd.R_base HO301.out k_ e_.symm)) (fun hs_=>fun e_=>Nat.not_le.2 hs_ (Kd.R_base HO301.out k_ e_.symm))) (fun hn_=>(Kd.fresh' (Kd.R_lt (rR HO301.out)) k_ hn_)))) (kZ HB.out));replace HO301:=mk0 (bR HO301.out hb);replace HB:=mk0 (kS HB.out hb);(try clear hb);(try clear ho0))|((with_reducible refine gate_callee (f:=37) rfl ?_);refine gL (some 23) Try.func37 #[.slice A0 l0.length c0] ?_;(with_reducible refine (spec_BwtOf.calls k _ _ l0 t305 _ ?side1 ?side2 A6.out).mono ?_);(case side1=>exact kC (Kd.C_below HR0.out HB.out));(case side2=>exact HC0.out);rintro e w11 ⟨v306,rfl,ho0,hb⟩;refine⟨_,rfl,?_⟩;replace HO301:=mk0 (bR HO301.out hb);replace HO304:=mk0 (Kd.N_elder' (rN HO304.out) (Kd.R_base ho0) hb);have HO307:=mk0 (Kd.R_lower ho0 (kZ HB.out));replace HB:=mk0 (kS HB.out hb);(try clear hb);(try clear ho0))|((with_reducible refine gate_callee (f:=37) rfl ?_);refine gL (some 25) Try.func37 #[.slice A1 l1.length c1] ?_;(with_reducible refine (spec_BwtOf.calls k _ _ l1 t308 _ ?side1 ?side2 A7.out).mono ?_);(case side1=>exact kC (Kd.C_below HR1.out HB.out));(case side2=>exact HC1.out);rintro e w12 ⟨v309,rfl,ho0,hb⟩;refine⟨_,rfl,?_⟩;replace HO301:=mk0 (bR HO301.out hb);replace HO304:=mk0 (Kd.N_elder' (rN HO304.out) (Kd.R_base ho0) hb);have HO310:=mk0 (Kd.R_lower (Kd.R_new' ho0 (Kd.R_lt (rR HO307.out))) (kZ HB.out));replace HO307:=mk0 (Kd.R_elder' (rR HO307.out) (Kd.R_base ho0) hb);replace HB:=mk0 (kS HB.out hb);(try clear hb);(try clear ho0)))
 go_loopg [9,13] k (fun kq v9 v13 w'=>∃ (x9_1:List (S56)) (x13_1:Int),v13 = .int .i64 x13_1 ∧ Aside0 (spec_ShareOf.l0 kq a3 x9_1 x13_1 t302 t305 t308 = some r) ∧ Aside0 (kq ≤ k) ∧ Aside0 (Kd.R k56 56 w' w.heap.size (fun _=>True) v9 x9_1) ∧ Aside0 (Kd.N k48 48 w' w.heap.size (fun k_=>some k_ ≠ (v9:Value).ownBlock ∧ some k_ ≠ (v306:Value).ownBlock ∧ some k_ ≠ (v309:Value).ownBlock) v303 t302) ∧ Aside0 (Kd.R (Kd.int .i64) 3 w' w.heap.size (fun k_=>some k_ ≠ (v309:Value).ownBlock) v306 t305) ∧ Aside0 (Kd.R (Kd.int .i64) 3 w' w.heap.size (fun k_=>some k_ ≠ (v306:Value).ownBlock) v309 t308) ∧ Aside0 (Below w.heap.size w w'))
 case atStart=>exact⟨(y299),(0),eS,H',⟨Nat.le_refl _⟩,⟨rR HO301.out⟩,⟨rN (Kd.N_mono HO304.out (fun _ hk=>⟨hk.1.1,⟨hk.1.2,hk.2⟩⟩))⟩,⟨rR (Kd.R_mono HO307.out (fun _ hk=>hk.2))⟩,⟨rR (Kd.R_mono HO310.out (fun _ hk=>hk.2))⟩,⟨kB HB.out⟩⟩
 case round =>
  clear H'
  try clear c1
  try clear c2
  try clear p2
  try clear c3
  obtain⟨x9_1,x13_1,rfl,HA,HK1,HO_9,HO_21,HO_23,HO_25,HB⟩:=hrel
  cases gk with
  | zero=>exact absurd HA.out (by simp [spec_ShareOf.l0])
  | succ k1 =>
   have H:=HA.out
   clear HA
   simp only [spec_ShareOf.l0] at H
   by_cases c13:x13_1 < (t302.length:Int)
   rotate_left
   ·rw [if_neg c13] at H
    have c13b0:decide (x13_1 < (t302.length:Int)) = false:=decide_eq_false c13
    (try simp only [hl311_0] at c13b0)
    clear c13
    obtain rfl:=Option.some.inj H
    obtain⟨Ao39,co39,eo39⟩:=Kd.N_slice HO_21.out
    subst eo39
    go_wp2
    go_ret
    exact⟨_,eR,rR HO_9.out,kB HB.out⟩
   rw [if_pos c13] at H
   have c13b0:decide (x13_1 < (t302.length:Int)) = true:=decide_eq_true c13
   (try simp only [hl311_0] at c13b0)
   clear c13
   by_cases c14:0 ≤ x13_1
   rotate_left
   ·rw [if_neg c14] at H
    exact nn H
   rw [if_pos c14] at H
   have c14b0:decide (0 ≤ x13_1) = true:=decide_eq_true c14
   clear c14
   by_cases c15:0 ≤ ((rd_T48 t302 x13_1).f1)
   rotate_left
   ·rw [if_neg c15] at H
    exact nn H
   rw [if_pos c15] at H
   have c15b0:=eq_true c15
   have c15b1:decide (0 ≤ ((rd_T48 t302 x13_1).f1)) = true:=decide_eq_true c15
   clear c15
   by_cases c16:((rd_T48 t302 x13_1).f1) ≤ ((rd_T48 t302 x13_1).f2)
   rotate_left
   ·rw [if_neg c16] at H
    exact nn H
   rw [if_pos c16] at H
   have c16b0:=eq_true c16
   have c16b1:decide (((rd_T48 t302 x13_1).f1) ≤ ((rd_T48 t302 x13_1).f2)) = true:=decide_eq_true c16
   clear c16
   by_cases c17:((rd_T48 t302 x13_1).f2) ≤ (t305.length:Int)
   rotate_left
   ·rw [if_neg c17] at H
    exact nn H
   rw [if_pos c17] at H
   have c17b0:=eq_true c17
   have c17b1:decide (((rd_T48 t302 x13_1).f2) ≤ (t305.length:Int)) = true:=decide_eq_true c17
   (try simp only [hl311_0] at c17b1)
   clear c17
   obtain⟨y313,hy313⟩:∃ y_:List Int,y_ = ((t305.take (((rd_T48 t302 x13_1).f2):Int).toNat).drop (((rd_T48 t302 x13_1).f1):Int).toNat):=⟨_,rfl⟩
   first|(with_reducible replace H:=yB hy313 H)|rw [← hy313] at H|skip
   have Ny313:=mk0 hy313
   clear hy313
   by_cases c18:0 ≤ ((rd_T48 t302 x13_1).f3)
   rotate_left
   ·rw [if_neg c18] at H
    exact nn H
   rw [if_pos c18] at H
   have c18b0:=eq_true c18
   have c18b1:decide (0 ≤ ((rd_T48 t302 x13_1).f3)) = true:=decide_eq_true c18
   clear c18
   by_cases c19:((rd_T48 t302 x13_1).f3) ≤ ((rd_T48 t302 x13_1).f4)
   rotate_left
   ·rw [if_neg c19] at H
    exact nn H
   rw [if_pos c19] at H
   have c19b0:=eq_true c19
   have c19b1:decide (((rd_T48 t302 x13_1).f3) ≤ ((rd_T48 t302 x13_1).f4)) = true:=decide_eq_true c19
   clear c19
   by_cases c20:((rd_T48 t302 x13_1).f4) ≤ (t308.length:Int)
   rotate_left
   ·rw [if_neg c20] at H
    exact nn H
   rw [if_pos c20] at H
   have c20b0:=eq_true c20
   have c20b1:decide (((rd_T48 t302 x13_1).f4) ≤ (t308.length:Int)) = true:=decide_eq_true c20
   (try simp only [hl311_0] at c20b1)
   clear c20
   obtain⟨y318,hy318⟩:∃ y_:List Int,y_ = ((t308.take (((rd_T48 t302 x13_1).f4):Int).toNat).drop (((rd_T48 t302 x13_1).f3):Int).toNat):=⟨_,rfl⟩
   first|(with_reducible replace H:=yB hy318 H)|rw [← hy318] at H|skip
   have Ny318:=mk0 hy318
   clear hy318
   replace H:=bE H
   obtain⟨t323,A21,H⟩:=H
   have H':=mk0 H
   clear H
   obtain⟨Ao22,co22,eo22⟩:=Kd.N_slice HO_21.out
   subst eo22
   have p311:0 ≤ (x13_1:Int):=oD
   have q311:x13_1 < (t302.length:Int):=oD
   obtain⟨ad311,A311_0,c311_0,e311,hx311_0,hx311_1,hx311_2,hx311_3,hx311_4,hl311_0,hi311_0⟩:=at_T48 (Kd.N_reads' HO_21.out).2.2 x13_1 p311 q311
   cases e311
   obtain⟨ce311,hce311,hMe311,hcc311⟩:=Kd.N_get HO_21.out z48 x13_1 p311 (by first|exact q311|exact oD|(have e_:=(Kd.N_reads' HO_21.out).1;omega))
   obtain⟨ua311_0,uc311_0,rfl,ul311_0,ge311_0⟩:=k48_openF hMe311
   have hv311_0:=hcc311 0 _ rfl
   rw [Nat.add_zero] at hv311_0
   replace hv311_0:=Option.some.inj (hv311_0.symm.trans hx311_0)
   injection hv311_0 with hva_ hvn_ hvc_
   rw [hva_] at ge311_0
   rw [hvc_] at ul311_0
   have HL311_0:=mk0 (show Kd.V (Kd.int .u8) 5 _ w.heap.size _ _ ((rd_T48 t302 x13_1).f0) from Kd.V_mk ul311_0 ge311_0)
   clear hva_ hvn_ hvc_ ge311_0 ul311_0
   clear hcc311 hce311
   have HR311_0:=mk0 hi311_0
   have HC311_0:=mk0 hl311_0
   clear hi311_0 hl311_0
   replace p311:=eq_true p311
   replace q311:=eq_true q311
   try go_wp2_with (first|((with_reducible refine gate_dst (N:=14) rfl ?_);refine box_event ?hg (N:=14) ?hd (cs:=#[.slice none 0 0,.int .i64 0,.int .i64 0,.int .i64 0,.int .i64 0]) (t:=48) ?hr ?_;(case hd=>rfl);(case hg=>rfl);(case hr=>first|(go_simp;done)|(go_simp;rfl));intro gb312 hg w23 hbox hb;replace HO_9:=mk0 (bR HO_9.out hb);replace HO_21:=mk0 (Kd.N_below (Kd.N_elderB (rN HO_21.out) gb312 (Nat.le_of_eq hg.symm)) hb);replace HO_23:=mk0 (bR HO_23.out hb);replace HO_25:=mk0 (bR HO_25.out hb);replace HR311_0:=mk0 (Kd.C_below (by repeat (first|(with_reducible exact HR311_0.out)|(with_reducible first|apply aC|apply nC|apply dC)|exact HR311_0.out|exact (Kd.V_reads' HL311_0.out).2.2)) hb);replace HL311_0:=mk0 (Kd.V_below (Kd.V_elderB (rV HL311_0.out) gb312 (Nat.le_of_eq hg.symm)) hb);have BK312:=mk0 (hbox);have GW312:=mk0 ((by rw [hg];exact (kZ HB.out):w.heap.size ≤ gb312));have GE312:=mk0 ((by rw [hg];exact (kZ HB.out):w.heap.size ≤ gb312));replace HB:=mk0 (kS HB.out hb);clear hb hbox hg;obtain⟨hcz24_0,hcz24_1,hcz24_2,hcz24_3,hcz24_4,hfz24_0,hfz24_1,hfz24_2,hfz24_3,hfz24_4⟩:=cz5 BK312.out))
   have n0_:Aside0 (Kd.R k56 56 (((((w23.setCell ⟨gb312,0,none⟩ (.slice A311_0 ((rd_T48 t302 x13_1).f0).length c311_0)).setCell ⟨gb312,1,none⟩ (.int .i64 ((rd_T48 t302 x13_1).f1))).setCell ⟨gb312,2,none⟩ (.int .i64 ((rd_T48 t302 x13_1).f2))).setCell ⟨gb312,3,none⟩ (.int .i64 ((rd_T48 t302 x13_1).f3))).setCell ⟨gb312,4,none⟩ (.int .i64 ((rd_T48 t302 x13_1).f4))) w.heap.size (fun _=>True) u9 x9_1):=⟨by (with_reducible repeat (first|apply aR|apply nR|apply dR));exact Kd.R_mono (Kd.R_far (p:=⟨gb312,4,none⟩) (Kd.R_far (p:=⟨gb312,3,none⟩) (Kd.R_far (p:=⟨gb312,2,none⟩) (Kd.R_far (p:=⟨gb312,1,none⟩) (Kd.R_far (p:=⟨gb312,0,none⟩) (Kd.R_types HO_9.out BK312.out (by decide)) (fun _ hk=>hk.2) (.slice A311_0 ((rd_T48 t302 x13_1).f0).length c311_0)) (fun _ hk=>hk.2) (.int .i64 ((rd_T48 t302 x13_1).f1))) (fun _ hk=>hk.2) (.int .i64 ((rd_T48 t302 x13_1).f2))) (fun _ hk=>hk.2) (.int .i64 ((rd_T48 t302 x13_1).f3))) (fun _ hk=>hk.2) (.int .i64 ((rd_T48 t302 x13_1).f4))) (fun _ hk=>trivial)⟩
   have n1_:Aside0 (Kd.N k48 48 (((((w23.setCell ⟨gb312,0,none⟩ (.slice A311_0 ((rd_T48 t302 x13_1).f0).length c311_0)).setCell ⟨gb312,1,none⟩ (.int .i64 ((rd_T48 t302 x13_1).f1))).setCell ⟨gb312,2,none⟩ (.int .i64 ((rd_T48 t302 x13_1).f2))).setCell ⟨gb312,3,none⟩ (.int .i64 ((rd_T48 t302 x13_1).f3))).setCell ⟨gb312,4,none⟩ (.int .i64 ((rd_T48 t302 x13_1).f4))) w.heap.size (fun k_=>some k_ ≠ (u9:Value).ownBlock ∧ some k_ ≠ (v306:Value).ownBlock ∧ some k_ ≠ (v309:Value).ownBlock ∧ k_ ≠ gb312) (.slice (some ad311) t302.length co22) t302):=⟨by (with_reducible repeat (first|apply aN|apply nN|apply dN));exact Kd.N_mono (Kd.N_far (p:=⟨gb312,4,none⟩) (Kd.N_far (p:=⟨gb312,3,none⟩) (Kd.N_far (p:=⟨gb312,2,none⟩) (Kd.N_far (p:=⟨gb312,1,none⟩) (Kd.N_far (p:=⟨gb312,0,none⟩) (Kd.N_mono HO_21.out (fun k_ hk=>(⟨hk,hk.2⟩:_ ∧ k_ ≠ gb312))) (fun _ hk=>hk.2) (.slice A311_0 ((rd_T48 t302 x13_1).f0).length c311_0)) (fun _ hk=>hk.2) (.int .i64 ((rd_T48 t302 x13_1).f1))) (fun _ hk=>hk.2) (.int .i64 ((rd_T48 t302 x13_1).f2))) (fun _ hk=>hk.2) (.int .i64 ((rd_T48 t302 x13_1).f3))) (fun _ hk=>hk.2) (.int .i64 ((rd_T48 t302 x13_1).f4))) (fun _ hk=>⟨hk.1.1.1,⟨hk.1.1.2.1,⟨hk.1.1.2.2,hk.1.2⟩⟩⟩)⟩
   have n2_:Aside0 (Kd.R (Kd.int .i64) 3 (((((w23.setCell ⟨gb312,0,none⟩ (.slice A311_0 ((rd_T48 t302 x13_1).f0).length c311_0)).setCell ⟨gb312,1,none⟩ (.int .i64 ((rd_T48 t302 x13_1).f1))).setCell ⟨gb312,2,none⟩ (.int .i64 ((rd_T48 t302 x13_1).f2))).setCell ⟨gb312,3,none⟩ (.int .i64 ((rd_T48 t302 x13_1).f3))).setCell ⟨gb312,4,none⟩ (.int .i64 ((rd_T48 t302 x13_1).f4))) w.heap.size (fun k_=>some k_ ≠ (v309:Value).ownBlock) v306 t305):=⟨by (with_reducible repeat (first|apply aR|apply nR|apply dR));exact Kd.R_mono (Kd.R_far (p:=⟨gb312,4,none⟩) (Kd.R_far (p:=⟨gb312,3,none⟩) (Kd.R_far (p:=⟨gb312,2,none⟩) (Kd.R_far (p:=⟨gb312,1,none⟩) (Kd.R_far (p:=⟨gb312,0,none⟩) (Kd.R_types HO_23.out BK312.out (by decide)) (fun _ hk=>hk.2) (.slice A311_0 ((rd_T48 t302 x13_1).f0).length c311_0)) (fun _ hk=>hk.2) (.int .i64 ((rd_T48 t302 x13_1).f1))) (fun _ hk=>hk.2) (.int .i64 ((rd_T48 t302 x13_1).f2))) (fun _ hk=>hk.2) (.int .i64 ((rd_T48 t302 x13_1).f3))) (fun _ hk=>hk.2) (.int .i64 ((rd_T48 t302 x13_1).f4))) (fun _ hk=>hk.1)⟩
   have n3_:Aside0 (Kd.R (Kd.int .i64) 3 (((((w23.setCell ⟨gb312,0,none⟩ (.slice A311_0 ((rd_T48 t302 x13_1).f0).length c311_0)).setCell ⟨gb312,1,none⟩ (.int .i64 ((rd_T48 t302 x13_1).f1))).setCell ⟨gb312,2,none⟩ (.int .i64 ((rd_T48 t302 x13_1).f2))).setCell ⟨gb312,3,none⟩ (.int .i64 ((rd_T48 t302 x13_1).f3))).setCell ⟨gb312,4,none⟩ (.int .i64 ((rd_T48 t302 x13_1).f4))) w.heap.size (fun k_=>some k_ ≠ (v306:Value).ownBlock) v309 t308):=⟨by (with_reducible repeat (first|apply aR|apply nR|apply dR));exact Kd.R_mono (Kd.R_far (p:=⟨gb312,4,none⟩) (Kd.R_far (p:=⟨gb312,3,none⟩) (Kd.R_far (p:=⟨gb312,2,none⟩) (Kd.R_far (p:=⟨gb312,1,none⟩) (Kd.R_far (p:=⟨gb312,0,none⟩) (Kd.R_types HO_25.out BK312.out (by decide)) (fun _ hk=>hk.2) (.slice A311_0 ((rd_T48 t302 x13_1).f0).length c311_0)) (fun _ hk=>hk.2) (.int .i64 ((rd_T48 t302 x13_1).f1))) (fun _ hk=>hk.2) (.int .i64 ((rd_T48 t302 x13_1).f2))) (fun _ hk=>hk.2) (.int .i64 ((rd_T48 t302 x13_1).f3))) (fun _ hk=>hk.2) (.int .i64 ((rd_T48 t302 x13_1).f4))) (fun _ hk=>hk.1)⟩
   have n4_:Aside0 (Kd.V (Kd.int .u8) 5 (((((w23.setCell ⟨gb312,0,none⟩ (.slice A311_0 ((rd_T48 t302 x13_1).f0).length c311_0)).setCell ⟨gb312,1,none⟩ (.int .i64 ((rd_T48 t302 x13_1).f1))).setCell ⟨gb312,2,none⟩ (.int .i64 ((rd_T48 t302 x13_1).f2))).setCell ⟨gb312,3,none⟩ (.int .i64 ((rd_T48 t302 x13_1).f3))).setCell ⟨gb312,4,none⟩ (.int .i64 ((rd_T48 t302 x13_1).f4))) w.heap.size (fun k_=>some k_ ≠ (u9:Value).ownBlock ∧ some k_ ≠ (.slice (some ad311) t302.length co22:Value).ownBlock ∧ some k_ ≠ (v306:Value).ownBlock ∧ some k_ ≠ (v309:Value).ownBlock ∧ k_ ≠ gb312) (.slice A311_0 ((rd_T48 t302 x13_1).f0).length c311_0) ((rd_T48 t302 x13_1).f0)):=⟨by (with_reducible repeat (first|apply aV|apply nV|apply dV));exact Kd.V_mono (Kd.V_far (p:=⟨gb312,4,none⟩) (Kd.V_far (p:=⟨gb312,3,none⟩) (Kd.V_far (p:=⟨gb312,2,none⟩) (Kd.V_far (p:=⟨gb312,1,none⟩) (Kd.V_far (p:=⟨gb312,0,none⟩) (Kd.V_mono HL311_0.out (fun k_ hk=>(⟨hk,hk.2⟩:_ ∧ k_ ≠ gb312))) (fun _ hk=>hk.2) (.slice A311_0 ((rd_T48 t302 x13_1).f0).length c311_0)) (fun _ hk=>hk.2) (.int .i64 ((rd_T48 t302 x13_1).f1))) (fun _ hk=>hk.2) (.int .i64 ((rd_T48 t302 x13_1).f2))) (fun _ hk=>hk.2) (.int .i64 ((rd_T48 t302 x13_1).f3))) (fun _ hk=>hk.2) (.int .i64 ((rd_T48 t302 x13_1).f4))) (fun _ hk=>⟨hk.1.1.1.1,⟨hk.1.1.2,⟨hk.1.1.1.2.1,⟨hk.1.1.1.2.2,hk.1.2⟩⟩⟩⟩)⟩
   have n5_:Aside0 ((((((w23.setCell ⟨gb312,0,none⟩ (.slice A311_0 ((rd_T48 t302 x13_1).f0).length c311_0)).setCell ⟨gb312,1,none⟩ (.int .i64 ((rd_T48 t302 x13_1).f1))).setCell ⟨gb312,2,none⟩ (.int .i64 ((rd_T48 t302 x13_1).f2))).setCell ⟨gb312,3,none⟩ (.int .i64 ((rd_T48 t302 x13_1).f3))).setCell ⟨gb312,4,none⟩ (.int .i64 ((rd_T48 t302 x13_1).f4))).heap[gb312]? = some (.cells #[.slice A311_0 ((rd_T48 t302 x13_1).f0).length c311_0,.int .i64 ((rd_T48 t302 x13_1).f1),.int .i64 ((rd_T48 t302 x13_1).f2),.int .i64 ((rd_T48 t302 x13_1).f3),.int .i64 ((rd_T48 t302 x13_1).f4)] 48 (0,0))):=⟨by (with_reducible repeat (first|apply nB|apply dB|apply aB));refine blk_put (cs:=#[.slice A311_0 ((rd_T48 t302 x13_1).f0).length c311_0,.int .i64 ((rd_T48 t302 x13_1).f1),.int .i64 ((rd_T48 t302 x13_1).f2),.int .i64 ((rd_T48 t302 x13_1).f3),.int .i64 0]) ?_ 4 _ rfl;(with_reducible repeat (first|apply nB|apply dB|apply aB));refine blk_put (cs:=#[.slice A311_0 ((rd_T48 t302 x13_1).f0).length c311_0,.int .i64 ((rd_T48 t302 x13_1).f1),.int .i64 ((rd_T48 t302 x13_1).f2),.int .i64 0,.int .i64 0]) ?_ 3 _ rfl;(with_reducible repeat (first|apply nB|apply dB|apply aB));refine blk_put (cs:=#[.slice A311_0 ((rd_T48 t302 x13_1).f0).length c311_0,.int .i64 ((rd_T48 t302 x13_1).f1),.int .i64 0,.int .i64 0,.int .i64 0]) ?_ 2 _ rfl;(with_reducible repeat (first|apply nB|apply dB|apply aB));refine blk_put (cs:=#[.slice A311_0 ((rd_T48 t302 x13_1).f0).length c311_0,.int .i64 0,.int .i64 0,.int .i64 0,.int .i64 0]) ?_ 1 _ rfl;(with_reducible repeat (first|apply nB|apply dB|apply aB));refine blk_put (cs:=#[.slice none 0 0,.int .i64 0,.int .i64 0,.int .i64 0,.int .i64 0]) ?_ 0 _ rfl;(with_reducible repeat (first|apply nB|apply dB|apply aB));exact BK312.out⟩
   have n6_:Aside0 (Below w.heap.size w (((((w23.setCell ⟨gb312,0,none⟩ (.slice A311_0 ((rd_T48 t302 x13_1).f0).length c311_0)).setCell ⟨gb312,1,none⟩ (.int .i64 ((rd_T48 t302 x13_1).f1))).setCell ⟨gb312,2,none⟩ (.int .i64 ((rd_T48 t302 x13_1).f2))).setCell ⟨gb312,3,none⟩ (.int .i64 ((rd_T48 t302 x13_1).f3))).setCell ⟨gb312,4,none⟩ (.int .i64 ((rd_T48 t302 x13_1).f4)))):=⟨kB HB.out⟩
   (try clear HO_9)
   (try clear HO_21)
   (try clear HO_23)
   (try clear HO_25)
   (try clear HL311_0)
   (try clear BK312)
   (try clear HB)
   generalize (((((w23.setCell ⟨gb312,0,none⟩ (.slice A311_0 ((rd_T48 t302 x13_1).f0).length c311_0)).setCell ⟨gb312,1,none⟩ (.int .i64 ((rd_T48 t302 x13_1).f1))).setCell ⟨gb312,2,none⟩ (.int .i64 ((rd_T48 t302 x13_1).f2))).setCell ⟨gb312,3,none⟩ (.int .i64 ((rd_T48 t302 x13_1).f3))).setCell ⟨gb312,4,none⟩ (.int .i64 ((rd_T48 t302 x13_1).f4))) = w25 at n0_ n1_ n2_ n3_ n4_ n5_ n6_ ⊢
   have HO_9:=n0_
   have HO_21:=n1_
   have HO_23:=n2_
   have HO_25:=n3_
   have HL311_0:=n4_
   have BK312:=n5_
   have HB:=n6_
   clear n0_ n1_ n2_ n3_ n4_ n5_ n6_
   replace HO_9:=mk0 (dR HO_9.out)
   replace HO_21:=mk0 (dN HO_21.out)
   replace HO_23:=mk0 (dR HO_23.out)
   replace HO_25:=mk0 (dR HO_25.out)
   replace HL311_0:=mk0 (dV HL311_0.out)
   replace BK312:=mk0 (dB BK312.out)
   replace HB:=mk0 (dZ HB.out)
   obtain⟨Ao28,co28,eo28⟩:=Kd.R_slice HO_23.out
   (first|subst eo28|(injection eo28 with f1_ f2_ f3_;have f4_:=f1_.symm;have f5_:=f3_.symm;clear f1_ f2_ f3_;subst f4_;subst f5_))
   have q27:(((rd_T48 t302 x13_1).f2):Int) ≤ ((t305.length:Int):Int):=oD
   obtain⟨i027,hi027,_,hsz27,_⟩:=info_parts info3
   have hroom27:t305.length ≤ co28:=(Kd.R_reads' HO_23.out).2.1
   have hC27:Kd.F (Kd.int .i64) _ _ Ao28 t305.length t305:=(Kd.V_at (base:=w.heap.size) (Kd.R_V (Kd.R_types (Kd.R_apart' (Kd.R_apart' (HO_23.out) (Kd.R_typed HO_9.out) (by decide)) (Kd.N_typed HO_21.out) (by decide)) BK312.out (by decide)))).2.2
   have ql27:(((rd_T48 t302 x13_1).f1):Int) ≤ (((rd_T48 t302 x13_1).f2):Int):=oD
   have q027:(0:Int) ≤ (((rd_T48 t302 x13_1).f1):Int):=oD
   have hcut27:=cut_mid (P:=Try.prog) 45 3 .i64 .i64 Try.underlying45 hi027 1 hsz27 Ao28 t305.length co28 ((rd_T48 t302 x13_1).f1) ((rd_T48 t302 x13_1).f2) q027 ql27 q27 hroom27
   have hr27:=Kd.F_mid (lo:=(((rd_T48 t302 x13_1).f1):Int).toNat) (hi:=(((rd_T48 t302 x13_1).f2):Int).toNat) (c:=co28) hC27 (by omega) (by omega) hroom27
   obtain⟨A27,hA27⟩:∃ A1,A1 = (if co28 = (((rd_T48 t302 x13_1).f1):Int).toNat then Ao28 else (Ao28:Option Addr).map (·.add ((((rd_T48 t302 x13_1).f1):Int).toNat * 1))):=⟨_,rfl⟩
   obtain⟨c27,hc27⟩:∃ c1,c1 = co28 - (((rd_T48 t302 x13_1).f1):Int).toNat:=⟨_,rfl⟩
   have hy27:y313.length = (((rd_T48 t302 x13_1).f2):Int).toNat - (((rd_T48 t302 x13_1).f1):Int).toNat:=(by rw [Ny313.out,List.length_drop,List.length_take] <;> omega)
   rw [show ((t305).take (((rd_T48 t302 x13_1).f2):Int).toNat).drop (((rd_T48 t302 x13_1).f1):Int).toNat = y313 from Ny313.out.symm] at hr27
   replace hr27:Kd.F (Kd.int .i64) _ _ A27 y313.length y313:=(by rw [hA27];exact hr27)
   rw [← hy27, ← hA27, ← hc27] at hcut27
   have HO317:=mk0 (show Kd.V (Kd.int .i64) 3 _ w.heap.size _ (.slice A27 y313.length c27) y313 from Kd.V_mk (by rw [hy27,hc27];exact Nat.sub_le_sub_right (Nat.le_trans (by omega) hroom27) _) hr27)
   have HC317:=mk0 (show y313.length ≤ c27 from by rw [hy27,hc27];exact Nat.sub_le_sub_right (Nat.le_trans (by omega) hroom27) _)
   clear hr27 hC27 hroom27 hi027 hsz27 hc27
   have KY27:=mk0 hy27
   have KA27:=mk0 hA27
   clear hy27 hA27
   replace q27:=eq_true q27
   obtain⟨Ao30,co30,eo30⟩:=Kd.R_slice HO_25.out
   (first|subst eo30|(injection eo30 with f1_ f2_ f3_;have f4_:=f1_.symm;have f5_:=f3_.symm;clear f1_ f2_ f3_;subst f4_;subst f5_))
   have q29:(((rd_T48 t302 x13_1).f4):Int) ≤ ((t308.length:Int):Int):=oD
   obtain⟨i029,hi029,_,hsz29,_⟩:=info_parts info3
   have hroom29:t308.length ≤ co30:=(Kd.R_reads' HO_25.out).2.1
   have hC29:Kd.F (Kd.int .i64) _ _ Ao30 t308.length t308:=(Kd.V_at (base:=w.heap.size) (Kd.R_V (Kd.R_types (Kd.R_apart' (Kd.R_apart' (HO_25.out) (Kd.R_typed HO_9.out) (by decide)) (Kd.N_typed HO_21.out) (by decide)) BK312.out (by decide)))).2.2
   have ql29:(((rd_T48 t302 x13_1).f3):Int) ≤ (((rd_T48 t302 x13_1).f4):Int):=oD
   have q029:(0:Int) ≤ (((rd_T48 t302 x13_1).f3):Int):=oD
   have hcut29:=cut_mid (P:=Try.prog) 45 3 .i64 .i64 Try.underlying45 hi029 1 hsz29 Ao30 t308.length co30 ((rd_T48 t302 x13_1).f3) ((rd_T48 t302 x13_1).f4) q029 ql29 q29 hroom29
   have hr29:=Kd.F_mid (lo:=(((rd_T48 t302 x13_1).f3):Int).toNat) (hi:=(((rd_T48 t302 x13_1).f4):Int).toNat) (c:=co30) hC29 (by omega) (by omega) hroom29
   obtain⟨A29,hA29⟩:∃ A1,A1 = (if co30 = (((rd_T48 t302 x13_1).f3):Int).toNat then Ao30 else (Ao30:Option Addr).map (·.add ((((rd_T48 t302 x13_1).f3):Int).toNat * 1))):=⟨_,rfl⟩
   obtain⟨c29,hc29⟩:∃ c1,c1 = co30 - (((rd_T48 t302 x13_1).f3):Int).toNat:=⟨_,rfl⟩
   have hy29:y318.length = (((rd_T48 t302 x13_1).f4):Int).toNat - (((rd_T48 t302 x13_1).f3):Int).toNat:=(by rw [Ny318.out,List.length_drop,List.length_take] <;> omega)
   rw [show ((t308).take (((rd_T48 t302 x13_1).f4):Int).toNat).drop (((rd_T48 t302 x13_1).f3):Int).toNat = y318 from Ny318.out.symm] at hr29
   replace hr29:Kd.F (Kd.int .i64) _ _ A29 y318.length y318:=(by rw [hA29];exact hr29)
   rw [← hy29, ← hA29, ← hc29] at hcut29
   have HO322:=mk0 (show Kd.V (Kd.int .i64) 3 _ w.heap.size _ (.slice A29 y318.length c29) y318 from Kd.V_mk (by rw [hy29,hc29];exact Nat.sub_le_sub_right (Nat.le_trans (by omega) hroom29) _) hr29)
   have HC322:=mk0 (show y318.length ≤ c29 from by rw [hy29,hc29];exact Nat.sub_le_sub_right (Nat.le_trans (by omega) hroom29) _)
   clear hr29 hC29 hroom29 hi029 hsz29 hc29
   have KY29:=mk0 hy29
   have KA29:=mk0 hA29
   clear hy29 hA29
   replace q29:=eq_true q29
   refine start_ (n:=15) (S:=fun w'=>w'.cell? ⟨gb312,0,none⟩ = some (.slice A311_0 ((rd_T48 t302 x13_1).f0).length c311_0) ∧ w'.cell? ⟨gb312,1,none⟩ = some (.int .i64 ((rd_T48 t302 x13_1).f1)) ∧ w'.cell? ⟨gb312,2,none⟩ = some (.int .i64 ((rd_T48 t302 x13_1).f2)) ∧ w'.cell? ⟨gb312,3,none⟩ = some (.int .i64 ((rd_T48 t302 x13_1).f3)) ∧ w'.cell? ⟨gb312,4,none⟩ = some (.int .i64 ((rd_T48 t302 x13_1).f4))) (ds:=[]) (bm 15 0) (by kernel_rfl) rfl (by kernel_rfl) (ck5 BK312.out) (fun hHeld=>?_);refine with_tabW spec_ShareOf.tab9 spec_ShareOf.bits9 (fun HT_ HW_=>?_)
   generalize w25.drew = w26 at HO_9 HO_21 HO_23 HO_25 HL311_0 BK312 HB HO317 HO322 hHeld ⊢
   refine pU 0 (some 36) (bm 15 1) HT_ ?_
   refine pU 1 (some 37) (bm 15 3) HT_ ?_
   refine pU 3 (some 39) (bm 15 11) HT_ ?_
   refine pU 6 (some 42) (bm 15 75) HT_ ?_
   refine pU 7 (some 43) (bm 15 203) HT_ ?_
   refine pU 9 (some 45) (bm 15 715) HT_ ?_
   refine pU 12 (some 48) (bm 15 4811) HT_ ?_
   refine pT 2 (some 38) (bm 15 4815) HT_ HW_ hHeld ?_
   refine pT 4 (some 40) (bm 15 4831) HT_ HW_ hHeld ?_
   refine pU 5 (some 41) (bm 15 4863) HT_ ?_
   refine pT 8 (some 44) (bm 15 5119) HT_ HW_ hHeld ?_
   refine pT 10 (some 46) (bm 15 6143) HT_ HW_ hHeld ?_
   refine pU 11 (some 47) (bm 15 8191) HT_ ?_
   refine pO 13 (some 49) (bm 15 16383) HT_ (fun K hK=>?_)
   refine gO Try.func42 #[.slice A27 y313.length c27,.slice A29 y318.length c29,.int .i64 a3] ?_
   with_reducible refine (spec_CommonWithin.calls k1 _ _ y313 _ _ y318 a3 t323 _ ?side1 ?side2 ?side3 ?side4 A21.out).mono ?_
   (case side1=>exact kC (Kd.V_reads' HO317.out).2.2)
   (case side2=>exact (Kd.V_reads' HO317.out).2.1)
   (case side3=>exact kC (Kd.V_reads' HO322.out).2.2)
   (case side4=>exact (Kd.V_reads' HO322.out).2.1)
   rintro e w31 ⟨v324,rfl,ho0,hb⟩
   refine⟨_,rfl,?_⟩
   replace HO_21:=mk0 (Kd.N_elder' (rN HO_21.out) (Kd.R_base ho0) hb)
   replace HO_23:=mk0 (bR HO_23.out hb)
   replace HO_25:=mk0 (bR HO_25.out hb)
   replace HL311_0:=mk0 (Kd.V_elder' (rV HL311_0.out) (Kd.R_base ho0) hb)
   replace HO317:=mk0 (Kd.V_elder' (rV HO317.out) (Kd.R_base ho0) hb)
   replace HO322:=mk0 (Kd.V_elder' (rV HO322.out) (Kd.R_base ho0) hb)
   have HO325:=mk0 (Kd.R_lower (Kd.R_new' ho0 (Kd.R_lt (rR HO_9.out))) (kZ HB.out))
   replace HO_9:=mk0 (Kd.R_elder' (rR HO_9.out) (Kd.R_base ho0) hb)
   replace BK312:=mk0 (kK BK312.out hb)
   replace HB:=mk0 (kS HB.out hb)
   (try clear hb)
   (try clear ho0)
   refine hK.out _ _ (ck5 BK312.out) (fun hHeld=>?_)
   clear hK K
   refine pN (some 49) ?_
   refine pU 14 (some 15) (bm 15 32767) HT_ ?_
   refine pD HT_ ?_
   try go_wp2
   go_loopg [9,16] k1 (fun kq v9 v16 w'=>∃ (x9_2:List (S56)) (x16_2:Int),v16 = .int .i64 x16_2 ∧ Aside0 (spec_ShareOf.l1 kq a3 x9_2 x13_1 x16_2 t302 t305 t308 t323 ((rd_T48 t302 x13_1).f0) ((rd_T48 t302 x13_1).f1) ((rd_T48 t302 x13_1).f2) ((rd_T48 t302 x13_1).f3) ((rd_T48 t302 x13_1).f4) = some r) ∧ Aside0 (kq ≤ k1) ∧ Aside0 (Kd.R k56 56 w' w.heap.size (fun k_=>some k_ ≠ (v324:Value).ownBlock) v9 x9_2) ∧ Aside0 (Kd.N k48 48 w' w.heap.size (fun k_=>some k_ ≠ (v9:Value).ownBlock ∧ some k_ ≠ ((.slice Ao28 t305.length co28):Value).ownBlock ∧ some k_ ≠ ((.slice Ao30 t308.length co30):Value).ownBlock ∧ some k_ ≠ (v324:Value).ownBlock ∧ k_ ≠ gb312) (.slice (some ad311) t302.length co22) t302) ∧ Aside0 (Kd.R (Kd.int .i64) 3 w' w.heap.size (fun k_=>some k_ ≠ ((.slice Ao30 t308.length co30):Value).ownBlock) (.slice Ao28 t305.length co28) t305) ∧ Aside0 (Kd.R (Kd.int .i64) 3 w' w.heap.size (fun k_=>some k_ ≠ ((.slice Ao28 t305.length co28):Value).ownBlock) (.slice Ao30 t308.length co30) t308) ∧ Aside0 (Kd.R k56 56 w' w.heap.size (fun k_=>some k_ ≠ (v9:Value).ownBlock) v324 t323) ∧ Aside0 (w'.heap[gb312]? = some (.cells #[(.slice A311_0 ((rd_T48 t302 x13_1).f0).length c311_0),.int .i64 ((rd_T48 t302 x13_1).f1),.int .i64 ((rd_T48 t302 x13_1).f2),.int .i64 ((rd_T48 t302 x13_1).f3),.int .i64 ((rd_T48 t302 x13_1).f4)] 48 (0,0))) ∧ Aside0 (Below w.heap.size w w'))
   case atStart=>exact⟨(x9_1),(0),eS,H',⟨Nat.le_refl _⟩,⟨rR (Kd.R_mono HO_9.out (fun _ hk=>hk.2))⟩,⟨rN (Kd.N_mono HO_21.out (fun _ hk=>⟨hk.1.1,⟨hk.1.2.1,⟨hk.1.2.2.1,⟨hk.2,hk.1.2.2.2⟩⟩⟩⟩))⟩,⟨rR HO_23.out⟩,⟨rR HO_25.out⟩,⟨rR (Kd.R_mono HO325.out (fun _ hk=>hk.2))⟩,⟨kN BK312.out⟩,⟨kB HB.out⟩⟩
   case round =>
    clear H'
    try clear c1
    try clear c2
    try clear p2
    try clear q2
    try clear c3
    try clear p3
    try clear q3
    try clear hx3
    try clear c4
    try clear c13
    try clear c13b0
    try clear c14
    try clear c14b0
    try clear c15
    try clear c15b0
    try clear c15b1
    try clear c16
    try clear c16b0
    try clear c16b1
    try clear c17
    try clear c17b0
    try clear c17b1
    try clear c18
    try clear c18b0
    try clear c18b1
    try clear c19
    try clear c19b0
    try clear c19b1
    try clear c20
    try clear c20b0
    try clear c20b1
    try clear c27
    try clear q27
    try clear c29
    try clear q29
    try clear c31
    try clear p31
    try clear q31
    try clear hx31
    try clear hcz24_0
    try clear hcz24_1
    try clear hcz24_2
    try clear hcz24_3
    try clear hcz24_4
    try clear hfz24_0
    try clear hfz24_1
    try clear hfz24_2
    try clear hfz24_3
    try clear hfz24_4
    try clear hx311_0
    try clear hx311_1
    try clear hx311_2
    try clear hx311_3
    try clear hx311_4
    try clear p2
    try clear p311
    try clear q027
    try clear q029
    try clear q27
    try clear q29
    try clear q311
    obtain⟨x9_2,x16_2,rfl,HA,HK2,HO_9,HO_21,HO_23,HO_25,HO_49,BK312,HB⟩:=hrel
    cases gk with
    | zero=>exact absurd HA.out (by simp [spec_ShareOf.l1])
    | succ k2 =>
     have H:=HA.out
     clear HA
     simp only [spec_ShareOf.l1] at H
     by_cases c32:x16_2 < (t323.length:Int)
     rotate_left
     ·rw [if_neg c32] at H
      have c32b0:decide (x16_2 < (t323.length:Int)) = false:=decide_eq_false c32
      (try simp only [hl311_0] at c32b0)
      clear c32
      have H':=mk0 H
      clear H
      obtain⟨Ao38,co38,eo38⟩:=Kd.R_slice HO_49.out
      subst eo38
      go_wp2
      go_roundg k2
      case measure=>have:=HK1.out;have:=HK2.out;omega
      case rel=>exact⟨(x9_2),(wrap64 (x13_1 + 1)),eS,H',⟨by have:=HK1.out;have:=HK2.out;omega⟩,⟨rR (Kd.R_mono HO_9.out (fun _ hk=>trivial))⟩,⟨rN (Kd.N_mono HO_21.out (fun _ hk=>⟨hk.1,⟨hk.2.1,hk.2.2.1⟩⟩))⟩,⟨rR HO_23.out⟩,⟨rR HO_25.out⟩,⟨kB HB.out⟩⟩
     rw [if_pos c32] at H
     have c32b0:decide (x16_2 < (t323.length:Int)) = true:=decide_eq_true c32
     (try simp only [hl311_0] at c32b0)
     clear c32
     by_cases c33:0 ≤ x16_2
     rotate_left
     ·rw [if_neg c33] at H
      exact nn H
     rw [if_pos c33] at H
     have c33b0:decide (0 ≤ x16_2) = true:=decide_eq_true c33
     clear c33
     by_cases c34:x9_2.length < 8796093022208
     rotate_left
     ·rw [if_neg c34] at H
      exact nn H
     rw [if_pos c34] at H
     have LMc34:=mk0 c34
     clear c34
     obtain⟨y328,hy328⟩:∃ y_:List (S56),y_ = (x9_2 ++ [(⟨wrap64 (((rd_T56 t323 x16_2).f0) + ((rd_T48 t302 x13_1).f1)),wrap64 (((rd_T56 t323 x16_2).f1) + ((rd_T48 t302 x13_1).f3))⟩:S56)]):=⟨_,rfl⟩
     first|(with_reducible replace H:=yB hy328 H)|rw [← hy328] at H|skip
     have Ny328:=mk0 hy328
     clear hy328
     have H':=mk0 H
     clear H
     obtain⟨Ao35,co35,eo35⟩:=Kd.R_slice HO_49.out
     subst eo35
     try go_wp2
     replace HO_9:=mk0 (dR HO_9.out)
     replace HO_21:=mk0 (dN HO_21.out)
     replace HO_23:=mk0 (dR HO_23.out)
     replace HO_25:=mk0 (dR HO_25.out)
     replace HO_49:=mk0 (dR HO_49.out)
     replace BK312:=mk0 (dB BK312.out)
     replace HB:=mk0 (dZ HB.out)
     have p326:0 ≤ (x16_2:Int):=oD
     have q326:x16_2 < (t323.length:Int):=oD
     obtain⟨ad326,e326,hx326_0,hx326_1⟩:=at_T56 (Kd.R_reads' HO_49.out).2.2 x16_2 p326 q326
     cases e326
     replace p326:=eq_true p326
     replace q326:=eq_true q326
     have p327:0 ≤ (x16_2:Int):=oD
     have q327:x16_2 < (t323.length:Int):=oD
     obtain⟨ad327,e327,hx327_0,hx327_1⟩:=at_T56 (Kd.R_reads' HO_49.out).2.2 x16_2 p327 q327
     obtain rfl:ad326 = ad327:=(by injection e327)
     replace p327:=eq_true p327
     replace q327:=eq_true q327
     refine start_ (n:=21) (S:=fun w'=>w'.cell? ⟨gb312,0,none⟩ = some (.slice A311_0 ((rd_T48 t302 x13_1).f0).length c311_0) ∧ w'.cell? ⟨gb312,1,none⟩ = some (.int .i64 ((rd_T48 t302 x13_1).f1)) ∧ w'.cell? ⟨gb312,2,none⟩ = some (.int .i64 ((rd_T48 t302 x13_1).f2)) ∧ w'.cell? ⟨gb312,3,none⟩ = some (.int .i64 ((rd_T48 t302 x13_1).f3)) ∧ w'.cell? ⟨gb312,4,none⟩ = some (.int .i64 ((rd_T48 t302 x13_1).f4)) ∧ w'.cell? (ad326.add ((x16_2).toNat * 2)) = some (.int .i64 ((rd_T56 t323 x16_2).f0)) ∧ w'.cell? ⟨(ad326.add ((x16_2).toNat * 2)).block,(ad326.add ((x16_2).toNat * 2)).off + 1,none⟩ = some (.int .i64 ((rd_T56 t323 x16_2).f1)) ∧ w'.cell? (ad326.add ((x16_2).toNat * 2)) = some (.int .i64 ((rd_T56 t323 x16_2).f0)) ∧ w'.cell? ⟨(ad326.add ((x16_2).toNat * 2)).block,(ad326.add ((x16_2).toNat * 2)).off + 1,none⟩ = some (.int .i64 ((rd_T56 t323 x16_2).f1))) (ds:=[18,19]) (bm 21 0) (by kernel_rfl) rfl (by kernel_rfl) ⟨(blk_cell BK312.out 0).trans rfl,(blk_cell BK312.out 1).trans rfl,(blk_cell BK312.out 2).trans rfl,(blk_cell BK312.out 3).trans rfl,(blk_cell BK312.out 4).trans rfl,hx326_0,hx326_1,hx327_0,hx327_1⟩ (fun hHeld=>?_);refine with_tabW spec_ShareOf.tab13 spec_ShareOf.bits13 (fun HT_ HW_=>?_)
     generalize wr.drew = w36 at HO_9 HO_21 HO_23 HO_25 HO_49 BK312 HB hx326_0 hx326_1 hx327_0 hx327_1 hHeld ⊢
     refine pU 0 (some 56) (bm 21 1) HT_ ?_
     refine pU 1 (some 57) (bm 21 3) HT_ ?_
     refine pU 2 (some 58) (bm 21 7) HT_ ?_
     refine pU 3 (some 59) (bm 21 15) HT_ ?_
     refine pU 4 (some 60) (bm 21 31) HT_ ?_
     refine pU 6 (some 62) (bm 21 95) HT_ ?_
     refine pU 9 (some 65) (bm 21 607) HT_ ?_
     refine pU 10 (some 66) (bm 21 1631) HT_ ?_
     refine pU 11 (some 67) (bm 21 3679) HT_ ?_
     refine pU 12 (some 68) (bm 21 7775) HT_ ?_
     refine pU 14 (some 70) (bm 21 24159) HT_ ?_
     refine pT 5 (some 61) (bm 21 24191) HT_ HW_ hHeld ?_
     refine pT 7 (some 63) (bm 21 24319) HT_ HW_ hHeld ?_
     refine pU 8 (some 64) (bm 21 24575) HT_ ?_
     refine pT 13 (some 69) (bm 21 32767) HT_ HW_ hHeld ?_
     refine pT 15 (some 71) (bm 21 65535) HT_ HW_ hHeld ?_
     refine pU 16 (some 72) (bm 21 131071) HT_ ?_
     refine pU 17 (some 73) (bm 21 262143) HT_ ?_
     refine pL 18 (some 74) (bm 21 524287) HT_ (fun K hK=>?_)
     refine value_ (w1:=?_) (v:=?_) (by rfl) rfl ?_ ?_
     rotate_left 2
     ·go_simp
      constructor
      ·rfl
      ·rfl
     refine hK.out _ _ ?_
     clear hK K
     refine pN (some 74) ?_
     refine pL 19 (some 75) (bm 21 1048575) HT_ (fun K hK=>?_)
     refine Kd.R_append_step k56 (w0:=w) w.heap.size (by rfl) (.tmp 56) (.tmp 74) 27 56 (.agg #[(.int .i64 0),(.int .i64 0)]) 16 rfl Try.underlying27 info56 rfl (by decide) (by omega) u9 x9_2 (⟨wrap64 (((rd_T56 t323 x16_2).f0) + ((rd_T48 t302 x13_1).f1)),wrap64 (((rd_T56 t323 x16_2).f1) + ((rd_T48 t302 x13_1).f3))⟩:S56) [.int .i64 (wrap64 (((rd_T56 t323 x16_2).f0) + ((rd_T48 t302 x13_1).f1))),.int .i64 (wrap64 (((rd_T56 t323 x16_2).f1) + ((rd_T48 t302 x13_1).f3)))] (fun k_=>some k_ ≠ (.slice (some ad326) t323.length co35:Value).ownBlock) (fun _=>False) rfl rfl ?aP (fun _ hk=>hk.elim) ?aF ?aO ?aB ?aS ?aL ?_
     (case aP=>exact k56_mkM _ _ _ (⟨wrap64 (((rd_T56 t323 x16_2).f0) + ((rd_T48 t302 x13_1).f1)),wrap64 (((rd_T56 t323 x16_2).f1) + ((rd_T48 t302 x13_1).f3))⟩:S56))
     (case aB=>exact (kB HB.out))
     (case aF=>exact (fun k_ hk=>Kd.fresh' (Kd.R_lt (rR HO_49.out)) k_ hk))
     (case aO=>exact (rR HO_9.out))
     (case aS=>exact (kZ HB.out))
     (case aL=>have:=LMc34.out;omega)
     intro v329 w37 ho hb hg hat
     rw [← Ny328.out] at ho
     replace HO_21:=mk0 (Kd.N_afterv (ok:=(fun k_=>some k_ ≠ (.slice Ao28 t305.length co28:Value).ownBlock ∧ some k_ ≠ (.slice Ao30 t308.length co30:Value).ownBlock ∧ some k_ ≠ (.slice (some ad326) t323.length co35:Value).ownBlock ∧ k_ ≠ gb312)) (rN (Kd.N_mono HO_21.out (fun _ hk=>⟨⟨hk.2.1,⟨hk.2.2.1,⟨hk.2.2.2.1,hk.2.2.2.2⟩⟩⟩,hk.1⟩))) hg hat)
     replace HO_23:=mk0 (Kd.R_over' (rR HO_23.out) (Kd.R_typed (rR HO_9.out)) (by decide) hg)
     replace HO_25:=mk0 (Kd.R_over' (rR HO_25.out) (Kd.R_typed (rR HO_9.out)) (by decide) hg)
     replace HO_49:=mk0 (Kd.R_after (ok:=(fun _=>True)) (rR (Kd.R_mono HO_49.out (fun _ hk=>⟨trivial,hk⟩))) hg hat)
     replace BK312:=mk0 (blk_grown (kN BK312.out) hg (Kd.R_ne HO_9.out BK312.out (by decide)))
     replace HB:=mk0 (hb)
     have HO330:=mk0 (ho)
     clear HO_9
     clear ho hb hg hat
     refine hK.out _ _ ?_
     clear hK K
     refine pN (some 75) ?_
     refine pU 20 (some 9) (bm 21 2097151) HT_ ?_
     refine pD HT_ ?_
     try go_wp2
     go_roundg k2
     case measure=>have:=HK1.out;have:=HK2.out;omega
     case rel=>exact⟨(y328),(wrap64 (x16_2 + 1)),eS,H',⟨by have:=HK1.out;have:=HK2.out;omega⟩,⟨rR HO330.out⟩,⟨rN (Kd.N_mono HO_21.out (fun _ hk=>⟨hk.2,⟨hk.1.1,⟨hk.1.2.1,⟨hk.1.2.2.1,hk.1.2.2.2⟩⟩⟩⟩))⟩,⟨rR HO_23.out⟩,⟨rR HO_25.out⟩,⟨rR (Kd.R_mono HO_49.out (fun _ hk=>hk.2))⟩,⟨kN BK312.out⟩,⟨kB HB.out⟩⟩
/-! ### spec_ShareLost: function 9 -/
def spec_ShareLost.f (k : Nat) (l0 : List Int) (l1 : List Int) (a2 : Int) (a3 : Int) : Option (Int) := (spec_l13Fit.f l0 l1 a2).bind fun t331 => (if t331 = true then ((spec_BwtOf.f k l0).bind fun t332 => ((spec_BwtOf.f k l1).bind fun t335 => ((spec_CommonLen.f k t332 t335).bind fun t338 => ((spec_ShareOf.f k l0 l1 a2 a3).bind fun t339 => (some (wrap64 (t338 - (t339.length : Int)))))))) else (some (-1)))
set_option maxHeartbeats 8000000 in
set_option maxRecDepth 100000 in
theorem spec_ShareLost.calls (k : Nat) (A0 : Option Addr) (c0 : Nat) (l0 : List Int) (A1 : Option Addr) (c1 : Nat) (l1 : List Int) (a2 : Int) (a3 : Int) (r : Int) (w : World) (hr0 : Kd.C (Kd.int .u8) w A0 l0.length l0) (hc0 : l0.length ≤ c0) (hr1 : Kd.C (Kd.int .u8) w A1 l1.length l1) (hc1 : l1.length ≤ c1) (h : spec_ShareLost.f k l0 l1 a2 a3 = some r) :
  Calls Try.prog 9 #[.slice A0 l0.length c0, .slice A1 l1.length c1, .int .i64 a2, .int .i64 a3] w fun e w' => e = .returned (.int .i64 r) ∧ Below w.heap.size w w' := by
 have HR0:=mk0 hr0
 have HC0:=mk0 hc0
 clear hr0 hc0
 have HR1:=mk0 hr1
 have HC1:=mk0 hc1
 clear hr1 hc1
 have HB:=mk0 (Below.refl w.heap.size w)
 have H:((spec_l13Fit.f l0 l1 a2).bind fun t331=>(if t331 = true then ((spec_BwtOf.f k l0).bind fun t332=>((spec_BwtOf.f k l1).bind fun t335=>((spec_CommonLen.f k t332 t335).bind fun t338=>((spec_ShareOf.f k l0 l1 a2 a3).bind fun t339=>(some (wrap64 (t338 - (t339.length:Int)))))))) else (some (-1)))) = some r:=h
 clear h
 replace H:=bE H
 obtain⟨t331,A5,H⟩:=H
 by_cases c6:t331 = true
 ·subst c6
  replace H:=iT H
  replace H:=bE H
  obtain⟨t332,A7,H⟩:=H
  replace H:=bE H
  obtain⟨t335,A8,H⟩:=H
  replace H:=bE H
  obtain⟨t338,A9,H⟩:=H
  replace H:=bE H
  obtain⟨t339,A10,H⟩:=H
  obtain rfl:=Option.some.inj H
  go_enter Try.func9,Try.ntmps9
  go_wp2_with (first|((with_reducible refine gate_callee (f:=35) rfl ?_);refine gL (some 12) Try.func35 #[.slice A0 l0.length c0,.slice A1 l1.length c1,.int .i64 a2] ?_;(with_reducible refine (spec_l13Fit.calls _ _ l0 _ _ l1 a2 true _ ?side1 ?side2 ?side3 ?side4 A5.out).mono ?_);(case side1=>exact kC HR0.out);(case side2=>exact HC0.out);(case side3=>exact kC HR1.out);(case side4=>exact HC1.out);rintro e w' ⟨rfl,⟨nd,rfl⟩⟩;refine⟨_,rfl,?_⟩)|((with_reducible refine gate_callee (f:=37) rfl ?_);refine gL (some 15) Try.func37 #[.slice A0 l0.length c0] ?_;(with_reducible refine (spec_BwtOf.calls k _ _ l0 t332 _ ?side1 ?side2 A7.out).mono ?_);(case side1=>exact kC HR0.out);(case side2=>exact HC0.out);rintro e w11 ⟨v333,rfl,ho0,hb⟩;refine⟨_,rfl,?_⟩;have HO334:=mk0 (Kd.R_lower ho0 (kZ HB.out));replace HB:=mk0 (kS HB.out hb);(try clear hb);(try clear ho0))|((with_reducible refine gate_callee (f:=37) rfl ?_);refine gL (some 17) Try.func37 #[.slice A1 l1.length c1] ?_;(with_reducible refine (spec_BwtOf.calls k _ _ l1 t335 _ ?side1 ?side2 A8.out).mono ?_);(case side1=>exact kC (Kd.C_below HR1.out HB.out));(case side2=>exact HC1.out);rintro e w12 ⟨v336,rfl,ho0,hb⟩;refine⟨_,rfl,?_⟩;have HO337:=mk0 (Kd.R_lower (Kd.R_new' ho0 (Kd.R_lt (rR HO334.out))) (kZ HB.out));replace HO334:=mk0 (Kd.R_elder' (rR HO334.out) (Kd.R_base ho0) hb);replace HB:=mk0 (kS HB.out hb);(try clear hb);(try clear ho0);obtain⟨Ao13,co13,eo13⟩:=Kd.R_slice HO334.out;subst eo13;obtain⟨Ao14,co14,eo14⟩:=Kd.R_slice HO337.out;subst eo14)|((with_reducible refine gate_callee (f:=36) rfl ?_);refine gL (some 18) Try.func36 #[.slice Ao13 t332.length co13,.slice Ao14 t335.length co14] ?_;(with_reducible refine (spec_CommonLen.calls k _ _ t332 _ _ t335 t338 _ ?side1 ?side2 ?side3 ?side4 A9.out).mono ?_);(case side1=>exact kC (Kd.R_reads' HO334.out).2.2);(case side2=>exact (Kd.R_reads' HO334.out).2.1);(case side3=>exact kC (Kd.R_reads' HO337.out).2.2);(case side4=>exact (Kd.R_reads' HO337.out).2.1);rintro e w15 ⟨rfl,hb⟩;refine⟨_,rfl,?_⟩;replace HO334:=mk0 (bR HO334.out hb);replace HO337:=mk0 (bR HO337.out hb);replace HB:=mk0 (kS HB.out hb);(try clear hb))|((with_reducible refine gate_callee (f:=13) rfl ?_);refine gL (some 23) Try.func13 #[.slice A0 l0.length c0,.slice A1 l1.length c1,.int .i64 a2,.int .i64 a3] ?_;(with_reducible refine (spec_ShareOf.calls k _ _ l0 _ _ l1 a2 a3 t339 _ ?side1 ?side2 ?side3 ?side4 A10.out).mono ?_);(case side1=>exact kC (Kd.C_below HR0.out HB.out));(case side2=>exact HC0.out);(case side3=>exact kC (Kd.C_below HR1.out HB.out));(case side4=>exact HC1.out);rintro e w16 ⟨v340,rfl,ho0,hb⟩;refine⟨_,rfl,?_⟩;replace HO334:=mk0 (bR HO334.out hb);replace HO337:=mk0 (bR HO337.out hb);have HO341:=mk0 (Kd.R_lower ho0 (kZ HB.out));replace HB:=mk0 (kS HB.out hb);(try clear hb);(try clear ho0);obtain⟨Ao17,co17,eo17⟩:=Kd.R_slice HO341.out;subst eo17))
  go_ret
  exact⟨eR,kB HB.out⟩
 ·replace c6:=Bool.eq_false_iff.mpr c6
  subst c6
  replace H:=iF H
  obtain rfl:=Option.some.inj H
  go_enter Try.func9,Try.ntmps9
  go_wp2_with (first|((with_reducible refine gate_callee (f:=35) rfl ?_);refine gL (some 12) Try.func35 #[.slice A0 l0.length c0,.slice A1 l1.length c1,.int .i64 a2] ?_;(with_reducible refine (spec_l13Fit.calls _ _ l0 _ _ l1 a2 false _ ?side1 ?side2 ?side3 ?side4 A5.out).mono ?_);(case side1=>exact kC HR0.out);(case side2=>exact HC0.out);(case side3=>exact kC HR1.out);(case side4=>exact HC1.out);rintro e w' ⟨rfl,⟨nd,rfl⟩⟩;refine⟨_,rfl,?_⟩))
  go_ret
  exact⟨eR,kB HB.out⟩
/-! ### impl_TextOk: function 60 -/
def impl_TextOk.f (l0 : List Int) : Option (Bool) := some (decide ((l0.length : Int) ≤ 300))
set_option maxHeartbeats 8000000 in
set_option maxRecDepth 100000 in
theorem impl_TextOk.calls (A0 : Option Addr) (c0 : Nat) (l0 : List Int) (r : Bool) (w : World) (hr0 : Kd.C (Kd.int .u8) w A0 l0.length l0) (hc0 : l0.length ≤ c0) (h : impl_TextOk.f l0 = some r) :
  Calls Try.prog 60 #[.slice A0 l0.length c0] w fun e w' => e = .returned (.bool r) ∧ Drawn0 w w' := by
 have HR0:=mk0 hr0
 have HC0:=mk0 hc0
 clear hr0 hc0
 have H:(some (decide ((l0.length:Int) ≤ 300))) = some r:=h
 clear h
 obtain rfl:=Option.some.inj H
 go_enter Try.func60,Try.ntmps60
 go_wp2
 go_ret
 exact⟨by first|rfl|(simp;done)|(simp [*];done),by repeat (first|exact Drawn0.refl _|apply Drawn0.step)⟩
/-! ### impl_within: function 61 -/
def impl_within.f (a0 : Int) (a1 : Int) (a2 : Int) : Option (Bool) := if a1 ≤ a0 then (some (decide (a0 ≤ a2))) else (some false)
set_option maxHeartbeats 8000000 in
set_option maxRecDepth 100000 in
theorem impl_within.calls (a0 : Int) (a1 : Int) (a2 : Int) (r : Bool) (w : World) (h : impl_within.f a0 a1 a2 = some r) :
  Calls Try.prog 61 #[.int .i64 a0, .int .i64 a1, .int .i64 a2] w fun e w' => e = .returned (.bool r) ∧ Drawn0 w w' := by
 have H:(if a1 ≤ a0 then (some (decide (a0 ≤ a2))) else (some false)) = some r:=h
 clear h
 by_cases c4:a1 ≤ a0
 ·rw [if_pos c4] at H
  have c4b0:decide (a1 ≤ a0) = true:=decide_eq_true c4
  clear c4
  obtain rfl:=Option.some.inj H
  go_enter Try.func61,Try.ntmps61
  go_wp2
  go_ret
  exact⟨by first|rfl|(simp;done)|(simp [*];done),by repeat (first|exact Drawn0.refl _|apply Drawn0.step)⟩
 ·rw [if_neg c4] at H
  have c4b0:decide (a1 ≤ a0) = false:=decide_eq_false c4
  clear c4
  obtain rfl:=Option.some.inj H
  go_enter Try.func61,Try.ntmps61
  go_wp2
  go_ret
  exact⟨by first|rfl|(simp;done)|(simp [*];done),by repeat (first|exact Drawn0.refl _|apply Drawn0.step)⟩
end Go.Proofs.Ytadhngelhognaaa.QFnShare
