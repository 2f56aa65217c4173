-- A walk, made by walk.py, a program of this session's.
import Derived.Test.YtgjmmegmkdklbaaQFnExactHuffReadx0
import Derived.Test.YtgjmmegmkdklbaaQFnExactHuffReadx1
import Derived.Test.YtgjmmegmkdklbaaQFnExactHuffReadx5
import Derived.Test.YtgjmmegmkdklbaaQFnExactHuffReadx6
import Derived.Test.YtgjmmegmkdklbaaQFnExactHuffReadx7
namespace Go.Proofs.Ytgjmmegmkdklbaa.QFnExactHuffRead
open Go.RowKit Go.Proofs.YtgjmmegmkdklbaaW.PrintWords Go.Proofs.YtgjmmegmkdklbaaW.PrintLast Go.Proofs.YtgjmmegmkdklbaaW.PrintMore
attribute [local go_sem] max2_int min2_int max_two min_two max_three min_three max_four min_four   -- for this text's walks alone
set_option linter.unusedVariables false
set_option linter.unusedSimpArgs false

/-! ### laws_FnExactHuffRead: function 6 -/
mutual
def laws_FnExactHuffRead.j0 : Nat → List Int → Int → List Int → Bool → List Int → List Int → Bool → Bool → Int → List Int → Int → List Int → Option (Bool)
 | 0, _, _, _, _, _, _, _, _, _, _, _, _ => none
 | k + 1, x1, x2, x8, x9, x11, x12, x13, x55, x239000, x239001, x256000, x256001 => if x55 = true then (some false) else ((laws_toBits.f k x239000 x239001).bind fun bt264 => ((laws_eqBits.f k x256000 x256001 bt264.1 bt264.2).bind fun t268 => (if t268 = true then ((laws_toIntS.f k x1).bind fun t269 => ((laws_eqIntS.f k x11 t269).bind fun t272 => (if t272 = true then ((laws_markBits.f k x256000 x256001 1).bind fun bt273 => ((laws_markIntS.f k x11 bt273.1).bind fun bt275 => (if bt275.1 < 0 then (laws_FnExactHuffRead.j1 k x1 x2 x8 x9 x12 true x239000 x239001) else ((laws_eqIntS.f k x12 x8).bind fun t277 => (if t277 = true then (laws_FnExactHuffRead.j1 k x1 x2 x8 x9 x12 (x13 != x9) x239000 x239001) else (laws_FnExactHuffRead.j1 k x1 x2 x8 x9 x12 true x239000 x239001)))))) else (some false)))) else (some false))))
def laws_FnExactHuffRead.j1 : Nat → List Int → Int → List Int → Bool → List Int → Bool → Int → List Int → Option (Bool)
 | 0, _, _, _, _, _, _, _, _ => none
 | k + 1, x1, x2, x8, x9, x12, x84, x239000, x239001 => if x84 = true then (some false) else ((laws_markIntS.f k x12 1).bind fun bt278 => ((laws_heldIntS.f k bt278.2 1).bind fun t280 => (if t280 < 0 then (some false) else (if t280 = bt278.1 then ((laws_toBits.f k x239000 x239001).bind fun bt281 => ((laws_toIntS.f k x1).bind fun t285 => ((impl_HuffRead.f k bt281.1 bt281.2 t285 x2).bind fun bt288 => ((laws_eqIntS.f k bt288.1 x8).bind fun t292 => (if t292 = true then (laws_FnExactHuffRead.j2 k bt278.2 bt278.1 (bt288.2 != x9)) else (laws_FnExactHuffRead.j2 k bt278.2 bt278.1 true)))))) else (some false)))))
def laws_FnExactHuffRead.j2 : Nat → List Int → Int → Bool → Option (Bool)
 | 0, _, _, _ => none
 | k + 1, x12, x15, x113 => if x113 = true then (some false) else ((laws_heldIntS.f k x12 1).bind fun t293 => (if t293 < 0 then (some false) else (if t293 = x15 then (some true) else (some false))))
end
def laws_FnExactHuffRead.f (k : Nat) (a0_0 : Int) (l0_1 : List Int) (l1 : List Int) (a2 : Int) : Option (Bool) := if (l1.length : Int) > 1048576 then (some true) else ((laws_szBits.f a0_0 l0_1 1048576).bind fun t239 => (if t239 < 0 then (some true) else ((laws_toBits.f k a0_0 l0_1).bind fun bt240 => ((laws_toIntS.f k l1).bind fun t244 => ((spec_HuffRead.f k bt240.1 bt240.2 t244 a2).bind fun bt247 => ((laws_toBits.f k a0_0 l0_1).bind fun bt251 => ((laws_toIntS.f k l1).bind fun t256 => ((impl_HuffRead.f k bt251.1 bt251.2 t256 a2).bind fun bt259 => ((laws_eqIntS.f k bt259.1 bt247.1).bind fun t263 => (if t263 = true then (laws_FnExactHuffRead.j0 k l1 a2 bt247.1 bt247.2 t256 bt259.1 bt259.2 (bt259.2 != bt247.2) a0_0 l0_1 bt251.1 bt251.2) else (laws_FnExactHuffRead.j0 k l1 a2 bt247.1 bt247.2 t256 bt259.1 bt259.2 true a0_0 l0_1 bt251.1 bt251.2)))))))))))
theorem laws_FnExactHuffRead.mono_l : ∀ k, (∀ y0 y1 y2 y3 y4 y5 y6 y7 y8 y9 y10 y11, LeO (laws_FnExactHuffRead.j0 k y0 y1 y2 y3 y4 y5 y6 y7 y8 y9 y10 y11) (laws_FnExactHuffRead.j0 (k + 1) y0 y1 y2 y3 y4 y5 y6 y7 y8 y9 y10 y11)) ∧ (∀ y0 y1 y2 y3 y4 y5 y6 y7, LeO (laws_FnExactHuffRead.j1 k y0 y1 y2 y3 y4 y5 y6 y7) (laws_FnExactHuffRead.j1 (k + 1) y0 y1 y2 y3 y4 y5 y6 y7)) ∧ (∀ y0 y1 y2, LeO (laws_FnExactHuffRead.j2 k y0 y1 y2) (laws_FnExactHuffRead.j2 (k + 1) y0 y1 y2))
 | 0 => ⟨fun _ _ _ _ _ _ _ _ _ _ _ _ r h => by simp [laws_FnExactHuffRead.j0] at h, fun _ _ _ _ _ _ _ _ r h => by simp [laws_FnExactHuffRead.j1] at h, fun _ _ _ r h => by simp [laws_FnExactHuffRead.j2] at h⟩
 | k + 1 => by
  obtain ⟨ih0, ih1, ih2⟩ := laws_FnExactHuffRead.mono_l k
  refine ⟨?_, ?_, ?_⟩
  ·intro y0 y1 y2 y3 y4 y5 y6 y7 y8 y9 y10 y11
   unfold laws_FnExactHuffRead.j0
   repeat' first|(with_reducible first|exact ih0 _ _ _ _ _ _ _ _ _ _ _ _|exact ih1 _ _ _ _ _ _ _ _|exact ih2 _ _ _|exact impl_HuffRead.mono _ _ _ _ _|exact laws_eqBits.mono _ _ _ _ _|exact laws_eqIntS.mono _ _ _|exact laws_heldIntS.mono _ _ _|exact laws_markBits.mono _ _ _ _|exact laws_markIntS.mono _ _ _|exact laws_toBits.mono _ _ _|exact laws_toIntS.mono _ _|exact spec_HuffRead.mono _ _ _ _ _|exact LeO.refl _|exact LeO.none _|refine LeO.ite ?_ ?_|refine LeO.bind ?_ (fun _ => ?_))|exact LeO.none _|refine LeO.ite ?_ ?_|refine LeO.bind ?_ (fun _ => ?_)
  ·intro y0 y1 y2 y3 y4 y5 y6 y7
   unfold laws_FnExactHuffRead.j1
   repeat' first|(with_reducible first|exact ih0 _ _ _ _ _ _ _ _ _ _ _ _|exact ih1 _ _ _ _ _ _ _ _|exact ih2 _ _ _|exact impl_HuffRead.mono _ _ _ _ _|exact laws_eqBits.mono _ _ _ _ _|exact laws_eqIntS.mono _ _ _|exact laws_heldIntS.mono _ _ _|exact laws_markBits.mono _ _ _ _|exact laws_markIntS.mono _ _ _|exact laws_toBits.mono _ _ _|exact laws_toIntS.mono _ _|exact spec_HuffRead.mono _ _ _ _ _|exact LeO.refl _|exact LeO.none _|refine LeO.ite ?_ ?_|refine LeO.bind ?_ (fun _ => ?_))|exact LeO.none _|refine LeO.ite ?_ ?_|refine LeO.bind ?_ (fun _ => ?_)
  ·intro y0 y1 y2
   unfold laws_FnExactHuffRead.j2
   repeat' first|(with_reducible first|exact ih0 _ _ _ _ _ _ _ _ _ _ _ _|exact ih1 _ _ _ _ _ _ _ _|exact ih2 _ _ _|exact impl_HuffRead.mono _ _ _ _ _|exact laws_eqBits.mono _ _ _ _ _|exact laws_eqIntS.mono _ _ _|exact laws_heldIntS.mono _ _ _|exact laws_markBits.mono _ _ _ _|exact laws_markIntS.mono _ _ _|exact laws_toBits.mono _ _ _|exact laws_toIntS.mono _ _|exact spec_HuffRead.mono _ _ _ _ _|exact LeO.refl _|exact LeO.none _|refine LeO.ite ?_ ?_|refine LeO.bind ?_ (fun _ => ?_))|exact LeO.none _|refine LeO.ite ?_ ?_|refine LeO.bind ?_ (fun _ => ?_)
theorem laws_FnExactHuffRead.mono : ∀ a0 a1 a2 a3 k, LeO (laws_FnExactHuffRead.f k a0 a1 a2 a3) (laws_FnExactHuffRead.f (k + 1) a0 a1 a2 a3) := by
 intro a0 a1 a2 a3 k
 obtain ⟨ih0, ih1, ih2⟩ := laws_FnExactHuffRead.mono_l k
 unfold laws_FnExactHuffRead.f
 repeat' first|(with_reducible first|exact ih0 _ _ _ _ _ _ _ _ _ _ _ _|exact ih1 _ _ _ _ _ _ _ _|exact ih2 _ _ _|exact impl_HuffRead.mono _ _ _ _ _|exact laws_eqBits.mono _ _ _ _ _|exact laws_eqIntS.mono _ _ _|exact laws_heldIntS.mono _ _ _|exact laws_markBits.mono _ _ _ _|exact laws_markIntS.mono _ _ _|exact laws_toBits.mono _ _ _|exact laws_toIntS.mono _ _|exact spec_HuffRead.mono _ _ _ _ _|exact LeO.refl _|exact LeO.none _|refine LeO.ite ?_ ?_|refine LeO.bind ?_ (fun _ => ?_))|exact LeO.none _|refine LeO.ite ?_ ?_|refine LeO.bind ?_ (fun _ => ?_)
set_option maxHeartbeats 8000000 in
set_option maxRecDepth 100000 in
theorem laws_FnExactHuffRead.calls (k : Nat) (a0_0 : Int) (A0_1 : Option Addr) (c0_1 : Nat) (l0_1 : List Int) (A1 : Option Addr) (c1 : Nat) (l1 : List Int) (a2 : Int) (r : Bool) (w : World) (hr0_1 : Kd.C (Kd.int .u64) w A0_1 l0_1.length l0_1) (hc0_1 : l0_1.length ≤ c0_1) (hr1 : Kd.C (Kd.int .i64) w A1 l1.length l1) (hc1 : l1.length ≤ c1) (h : laws_FnExactHuffRead.f k a0_0 l0_1 l1 a2 = some r) :
  Calls Try.prog 6 #[.agg #[.int .i64 a0_0, .slice A0_1 l0_1.length c0_1], .slice A1 l1.length c1, .int .i64 a2] w fun e w' => e = .returned (.bool r) ∧ Below w.heap.size w w' := by
 have hu41:=Try.underlying41
 have hu30:=Try.underlying30
 have HR0_1:=mk0 hr0_1
 have HC0_1:=mk0 hc0_1
 clear hr0_1 hc0_1
 have HR1:=mk0 hr1
 have HC1:=mk0 hc1
 clear hr1 hc1
 have HB:=mk0 (Below.refl w.heap.size w)
 have H:(if (l1.length:Int) > 1048576 then (some true) else ((laws_szBits.f a0_0 l0_1 1048576).bind fun t239=>(if t239 < 0 then (some true) else ((laws_toBits.f k a0_0 l0_1).bind fun bt240=>((laws_toIntS.f k l1).bind fun t244=>((spec_HuffRead.f k bt240.1 bt240.2 t244 a2).bind fun bt247=>((laws_toBits.f k a0_0 l0_1).bind fun bt251=>((laws_toIntS.f k l1).bind fun t256=>((impl_HuffRead.f k bt251.1 bt251.2 t256 a2).bind fun bt259=>((laws_eqIntS.f k bt259.1 bt247.1).bind fun t263=>(if t263 = true then (laws_FnExactHuffRead.j0 k l1 a2 bt247.1 bt247.2 t256 bt259.1 bt259.2 (bt259.2 != bt247.2) a0_0 l0_1 bt251.1 bt251.2) else (laws_FnExactHuffRead.j0 k l1 a2 bt247.1 bt247.2 t256 bt259.1 bt259.2 true a0_0 l0_1 bt251.1 bt251.2)))))))))))) = some r:=h
 clear h
 by_cases c4:(l1.length:Int) > 1048576
 ·rw [if_pos c4] at H
  have c4b0:decide (1048576 < (l1.length:Int)) = true:=decide_eq_true c4
  (try simp only [hl12_79] at c4b0)
  (try simp only [hl256001_51] at c4b0)
  have c4b1:decide (1048576 < l1.length) = true:=decide_eq_true (by omega)
  (try simp only [hl12_79] at c4b1)
  (try simp only [hl256001_51] at c4b1)
  clear c4
  obtain rfl:=Option.some.inj H
  go_enter Try.func6,Try.ntmps6
  go_wp2_with (first|((with_reducible refine gate_dst (N:=3) rfl ?_);refine box_event ?hg (N:=3) ?hd (cs:=#[.int .i64 a0_0,.slice A0_1 l0_1.length c0_1]) (t:=41) ?hr ?_;(case hd=>rfl);(case hg=>rfl);(case hr=>first|(go_simp;done)|(go_simp;rfl));intro gb238 hg w5 hbox hb;have BK238:=mk0 (hbox);have GW238:=mk0 ((by rw [hg];exact (kZ HB.out):w.heap.size ≤ gb238));have GE238:=mk0 ((by rw [hg];exact (kZ HB.out):w.heap.size ≤ gb238));replace HB:=mk0 (kS HB.out hb);clear hb hbox hg))
  go_ret
  exact⟨by first|rfl|(simp [errW_none,errW_some] <;> rfl)|(simp [*,errW_none,errW_some] <;> rfl),kB HB.out⟩
 rw [if_neg c4] at H
 have c4b0:decide (1048576 < (l1.length:Int)) = false:=decide_eq_false c4
 (try simp only [hl12_79] at c4b0)
 (try simp only [hl256001_51] at c4b0)
 have c4b1:decide (1048576 < l1.length) = false:=decide_eq_false (by omega)
 (try simp only [hl12_79] at c4b1)
 (try simp only [hl256001_51] at c4b1)
 clear c4
 replace H:=Option.bind_eq_some_iff.mp H
 obtain⟨t239,A60,H⟩:=H
 replace H:(if t239 < 0 then (some true) else ((laws_toBits.f k a0_0 l0_1).bind fun bt240=>((laws_toIntS.f k l1).bind fun t244=>((spec_HuffRead.f k bt240.1 bt240.2 t244 a2).bind fun bt247=>((laws_toBits.f k a0_0 l0_1).bind fun bt251=>((laws_toIntS.f k l1).bind fun t256=>((impl_HuffRead.f k bt251.1 bt251.2 t256 a2).bind fun bt259=>((laws_eqIntS.f k bt259.1 bt247.1).bind fun t263=>(if t263 = true then (laws_FnExactHuffRead.j0 k l1 a2 bt247.1 bt247.2 t256 bt259.1 bt259.2 (bt259.2 != bt247.2) a0_0 l0_1 bt251.1 bt251.2) else (laws_FnExactHuffRead.j0 k l1 a2 bt247.1 bt247.2 t256 bt259.1 bt259.2 true a0_0 l0_1 bt251.1 bt251.2)))))))))) = some r:=H
 have A6:=mk0 A60
 clear A60
 by_cases c7:t239 < 0
 ·rw [if_pos c7] at H
  have c7b0:decide (t239 < 0) = true:=decide_eq_true c7
  clear c7
  obtain rfl:=Option.some.inj H
  go_enter Try.func6,Try.ntmps6
  go_wp2_with (first|((with_reducible refine gate_dst (N:=3) rfl ?_);refine box_event ?hg (N:=3) ?hd (cs:=#[.int .i64 a0_0,.slice A0_1 l0_1.length c0_1]) (t:=41) ?hr ?_;(case hd=>rfl);(case hg=>rfl);(case hr=>first|(go_simp;done)|(go_simp;rfl));intro gb238 hg w8 hbox hb;have BK238:=mk0 (hbox);have GW238:=mk0 ((by rw [hg];exact (kZ HB.out):w.heap.size ≤ gb238));have GE238:=mk0 ((by rw [hg];exact (kZ HB.out):w.heap.size ≤ gb238));replace HB:=mk0 (kS HB.out hb);clear hb hbox hg;obtain⟨hcz9_0,hcz9_1,hfz9_0,hfz9_1⟩:=cz2 BK238.out)|((with_reducible refine gate_callee (f:=27) rfl ?_);refine goesL_ (some 24) rfl rfl Try.func27 (by kernel_rfl) rfl #[.agg #[.int .i64 a0_0,.slice A0_1 l0_1.length c0_1],.int .i64 1048576] rfl (by (try simp only [mA,mC,mN]);first|done|rfl|(simp only [List.length_drop,List.length_take];done)|(simp only [List.length_drop,List.length_take];rfl)) ?_;(with_reducible refine (laws_szBits.calls a0_0 _ _ l0_1 1048576 t239 _ ?side1 ?side2 A6.out).mono ?_);(case side1=>exact kC (Kd.C_below HR0_1.out HB.out));(case side2=>exact HC0_1.out);rintro e w10 ⟨rfl,hb⟩;refine⟨_,rfl,?_⟩;replace BK238:=mk0 (kK BK238.out hb);replace HB:=mk0 (kS HB.out hb);(try clear hb)))
  go_ret
  exact⟨by first|rfl|(simp [errW_none,errW_some] <;> rfl)|(simp [*,errW_none,errW_some] <;> rfl),kB HB.out⟩
 rw [if_neg c7] at H
 have c7b0:decide (t239 < 0) = false:=decide_eq_false c7
 clear c7
 replace H:=Option.bind_eq_some_iff.mp H
 obtain⟨⟨t240,t241⟩,A110,H⟩:=H
 replace H:((laws_toIntS.f k l1).bind fun t244=>((spec_HuffRead.f k t240 t241 t244 a2).bind fun bt247=>((laws_toBits.f k a0_0 l0_1).bind fun bt251=>((laws_toIntS.f k l1).bind fun t256=>((impl_HuffRead.f k bt251.1 bt251.2 t256 a2).bind fun bt259=>((laws_eqIntS.f k bt259.1 bt247.1).bind fun t263=>(if t263 = true then (laws_FnExactHuffRead.j0 k l1 a2 bt247.1 bt247.2 t256 bt259.1 bt259.2 (bt259.2 != bt247.2) a0_0 l0_1 bt251.1 bt251.2) else (laws_FnExactHuffRead.j0 k l1 a2 bt247.1 bt247.2 t256 bt259.1 bt259.2 true a0_0 l0_1 bt251.1 bt251.2)))))))) = some r:=H
 have A11:=mk0 A110
 clear A110
 replace H:=Option.bind_eq_some_iff.mp H
 obtain⟨t244,A120,H⟩:=H
 replace H:((spec_HuffRead.f k t240 t241 t244 a2).bind fun bt247=>((laws_toBits.f k a0_0 l0_1).bind fun bt251=>((laws_toIntS.f k l1).bind fun t256=>((impl_HuffRead.f k bt251.1 bt251.2 t256 a2).bind fun bt259=>((laws_eqIntS.f k bt259.1 bt247.1).bind fun t263=>(if t263 = true then (laws_FnExactHuffRead.j0 k l1 a2 bt247.1 bt247.2 t256 bt259.1 bt259.2 (bt259.2 != bt247.2) a0_0 l0_1 bt251.1 bt251.2) else (laws_FnExactHuffRead.j0 k l1 a2 bt247.1 bt247.2 t256 bt259.1 bt259.2 true a0_0 l0_1 bt251.1 bt251.2))))))) = some r:=H
 have A12:=mk0 A120
 clear A120
 replace H:=Option.bind_eq_some_iff.mp H
 obtain⟨⟨t247,t250⟩,A130,H⟩:=H
 replace H:((laws_toBits.f k a0_0 l0_1).bind fun bt251=>((laws_toIntS.f k l1).bind fun t256=>((impl_HuffRead.f k bt251.1 bt251.2 t256 a2).bind fun bt259=>((laws_eqIntS.f k bt259.1 t247).bind fun t263=>(if t263 = true then (laws_FnExactHuffRead.j0 k l1 a2 t247 t250 t256 bt259.1 bt259.2 (bt259.2 != t250) a0_0 l0_1 bt251.1 bt251.2) else (laws_FnExactHuffRead.j0 k l1 a2 t247 t250 t256 bt259.1 bt259.2 true a0_0 l0_1 bt251.1 bt251.2)))))) = some r:=H
 have A13:=mk0 A130
 clear A130
 replace H:=Option.bind_eq_some_iff.mp H
 obtain⟨⟨t251,t252⟩,A140,H⟩:=H
 replace H:((laws_toIntS.f k l1).bind fun t256=>((impl_HuffRead.f k t251 t252 t256 a2).bind fun bt259=>((laws_eqIntS.f k bt259.1 t247).bind fun t263=>(if t263 = true then (laws_FnExactHuffRead.j0 k l1 a2 t247 t250 t256 bt259.1 bt259.2 (bt259.2 != t250) a0_0 l0_1 t251 t252) else (laws_FnExactHuffRead.j0 k l1 a2 t247 t250 t256 bt259.1 bt259.2 true a0_0 l0_1 t251 t252))))) = some r:=H
 have A14:=mk0 A140
 clear A140
 replace H:=Option.bind_eq_some_iff.mp H
 obtain⟨t256,A150,H⟩:=H
 replace H:((impl_HuffRead.f k t251 t252 t256 a2).bind fun bt259=>((laws_eqIntS.f k bt259.1 t247).bind fun t263=>(if t263 = true then (laws_FnExactHuffRead.j0 k l1 a2 t247 t250 t256 bt259.1 bt259.2 (bt259.2 != t250) a0_0 l0_1 t251 t252) else (laws_FnExactHuffRead.j0 k l1 a2 t247 t250 t256 bt259.1 bt259.2 true a0_0 l0_1 t251 t252)))) = some r:=H
 have A15:=mk0 A150
 clear A150
 replace H:=Option.bind_eq_some_iff.mp H
 obtain⟨⟨t259,t262⟩,A160,H⟩:=H
 replace H:((laws_eqIntS.f k t259 t247).bind fun t263=>(if t263 = true then (laws_FnExactHuffRead.j0 k l1 a2 t247 t250 t256 t259 t262 (t262 != t250) a0_0 l0_1 t251 t252) else (laws_FnExactHuffRead.j0 k l1 a2 t247 t250 t256 t259 t262 true a0_0 l0_1 t251 t252))) = some r:=H
 have A16:=mk0 A160
 clear A160
 have HC17:=mk0 H
 clear H
 go_enter Try.func6,Try.ntmps6
 go_upto_region 11 with (first|((with_reducible refine gate_dst (N:=3) rfl ?_);refine box_event ?hg (N:=3) ?hd (cs:=#[.int .i64 a0_0,.slice A0_1 l0_1.length c0_1]) (t:=41) ?hr ?_;(case hd=>rfl);(case hg=>rfl);(case hr=>first|(go_simp;done)|(go_simp;rfl));intro gb238 hg w18 hbox hb;have BK238:=mk0 (hbox);have GW238:=mk0 ((by rw [hg];exact (kZ HB.out):w.heap.size ≤ gb238));have GE238:=mk0 ((by rw [hg];exact (kZ HB.out):w.heap.size ≤ gb238));replace HB:=mk0 (kS HB.out hb);clear hb hbox hg;obtain⟨hcz19_0,hcz19_1,hfz19_0,hfz19_1⟩:=cz2 BK238.out)|((with_reducible refine gate_callee (f:=27) rfl ?_);refine goesL_ (some 24) rfl rfl Try.func27 (by kernel_rfl) rfl #[.agg #[.int .i64 a0_0,.slice A0_1 l0_1.length c0_1],.int .i64 1048576] rfl (by (try simp only [mA,mC,mN]);first|done|rfl|(simp only [List.length_drop,List.length_take];done)|(simp only [List.length_drop,List.length_take];rfl)) ?_;(with_reducible refine (laws_szBits.calls a0_0 _ _ l0_1 1048576 t239 _ ?side1 ?side2 A6.out).mono ?_);(case side1=>exact kC (Kd.C_below HR0_1.out HB.out));(case side2=>exact HC0_1.out);rintro e w20 ⟨rfl,hb⟩;refine⟨_,rfl,?_⟩;replace BK238:=mk0 (kK BK238.out hb);replace HB:=mk0 (kS HB.out hb);(try clear hb);obtain⟨hcz21_0,hcz21_1,hfz21_0,hfz21_1⟩:=cz2 BK238.out)|((with_reducible refine gate_callee (f:=29) rfl ?_);refine goesL_ (some 29) rfl rfl Try.func29 (by kernel_rfl) rfl #[.agg #[.int .i64 a0_0,.slice A0_1 l0_1.length c0_1]] rfl (by (try simp only [mA,mC,mN]);first|done|rfl|(simp only [List.length_drop,List.length_take];done)|(simp only [List.length_drop,List.length_take];rfl)) ?_;(with_reducible refine (laws_toBits.calls k a0_0 _ _ l0_1 t240 t241 _ ?side1 ?side2 A11.out).mono ?_);(case side1=>exact kC (Kd.C_below HR0_1.out HB.out));(case side2=>exact HC0_1.out);rintro e w22 ⟨v242,rfl,ho0,hb⟩;refine⟨_,rfl,?_⟩;have HO243:=mk0 (Kd.R_lower ho0 (kZ HB.out));replace BK238:=mk0 (kK BK238.out hb);replace HB:=mk0 (kS HB.out hb);(try clear hb);(try clear ho0))|((with_reducible refine gate_callee (f:=13) rfl ?_);refine goesL_ (some 31) rfl rfl Try.func13 (by kernel_rfl) rfl #[.slice A1 l1.length c1] rfl (by (try simp only [mA,mC,mN]);first|done|rfl|(simp only [List.length_drop,List.length_take];done)|(simp only [List.length_drop,List.length_take];rfl)) ?_;(with_reducible refine (laws_toIntS.calls k _ _ l1 t244 _ ?side1 ?side2 A12.out).mono ?_);(case side1=>exact kC (Kd.C_below HR1.out HB.out));(case side2=>exact HC1.out);rintro e w23 ⟨v245,rfl,ho0,hb⟩;refine⟨_,rfl,?_⟩;replace HO243:=mk0 (bR HO243.out hb);have HO246:=mk0 (Kd.R_lower ho0 (kZ HB.out));replace BK238:=mk0 (kK BK238.out hb);replace HB:=mk0 (kS HB.out hb);(try clear hb);(try clear ho0);obtain⟨Ao24,co24,eo24⟩:=Kd.R_slice HO243.out;subst eo24;obtain⟨Ao25,co25,eo25⟩:=Kd.R_slice HO246.out;subst eo25)|((with_reducible refine gate_callee (f:=28) rfl ?_);refine goesL_ (some 33) rfl rfl Try.func28 (by kernel_rfl) rfl #[.agg #[.int .i64 t240,.slice Ao24 t241.length co24],.slice Ao25 t244.length co25,.int .i64 a2] rfl (by (try simp only [mA,mC,mN]);first|done|rfl|(simp only [List.length_drop,List.length_take];done)|(simp only [List.length_drop,List.length_take];rfl)) ?_;(with_reducible refine (spec_HuffRead.calls k t240 _ _ t241 _ _ t244 a2 t247 t250 _ ?side1 ?side2 ?side3 ?side4 A13.out).mono ?_);(case side1=>exact kC (Kd.R_reads' HO243.out).2.2);(case side2=>exact (Kd.R_reads' HO243.out).2.1);(case side3=>exact kC (Kd.R_reads' HO246.out).2.2);(case side4=>exact (Kd.R_reads' HO246.out).2.1);rintro e w26 ⟨v248,rfl,ho0,hb⟩;refine⟨_,rfl,?_⟩;replace HO243:=mk0 (bR HO243.out hb);have HO249:=mk0 (Kd.R_lower (Kd.R_new' ho0 (Kd.R_lt (rR HO246.out))) (kZ HB.out));replace HO246:=mk0 (Kd.R_elder' (rR HO246.out) (Kd.R_base ho0) hb);replace BK238:=mk0 (kK BK238.out hb);replace HB:=mk0 (kS HB.out hb);(try clear hb);(try clear ho0);obtain⟨hcz27_0,hcz27_1,hfz27_0,hfz27_1⟩:=cz2 BK238.out)|((with_reducible refine gate_callee (f:=29) rfl ?_);refine goesL_ (some 37) rfl rfl Try.func29 (by kernel_rfl) rfl #[.agg #[.int .i64 a0_0,.slice A0_1 l0_1.length c0_1]] rfl (by (try simp only [mA,mC,mN]);first|done|rfl|(simp only [List.length_drop,List.length_take];done)|(simp only [List.length_drop,List.length_take];rfl)) ?_;(with_reducible refine (laws_toBits.calls k a0_0 _ _ l0_1 t251 t252 _ ?side1 ?side2 A14.out).mono ?_);(case side1=>exact kC (Kd.C_below HR0_1.out HB.out));(case side2=>exact HC0_1.out);rintro e w28 ⟨v253,rfl,ho0,hb⟩;refine⟨_,rfl,?_⟩;replace HO246:=mk0 (bR HO246.out hb);replace HO249:=mk0 (bR HO249.out hb);have HO254:=mk0 (Kd.R_lower (Kd.R_new' ho0 (Kd.R_lt (rR HO243.out))) (kZ HB.out));replace HO243:=mk0 (Kd.R_elder' (rR HO243.out) (Kd.R_base ho0) hb);replace BK238:=mk0 (kK BK238.out hb);replace HB:=mk0 (kS HB.out hb);(try clear hb);(try clear ho0))|((with_reducible refine gate_dst (N:=10) rfl ?_);refine box_event ?hg (N:=10) ?hd (cs:=#[.int .i64 0,.slice none 0 0]) (t:=30) ?hr ?_;(case hd=>rfl);(case hg=>rfl);(case hr=>first|(go_simp;done)|(go_simp;rfl));intro gb255 hg w29 hbox hb;replace HO243:=mk0 (bR HO243.out hb);replace HO246:=mk0 (bR HO246.out hb);replace HO249:=mk0 (bR HO249.out hb);replace HO254:=mk0 (bR HO254.out hb);have BK255:=mk0 (hbox);have GW255:=mk0 ((by rw [hg];exact (kZ HB.out):w.heap.size ≤ gb255));have GE255:=mk0 ((by rw [hg];exact (kZ HB.out):w.heap.size ≤ gb255));replace HB:=mk0 (kS HB.out hb);have NB238_255:=mk0 ((by rw [hg];exact Nat.ne_of_lt (kL BK238.out):gb238 ≠ gb255));have NB255_238:=mk0 ((by rw [hg];exact Nat.ne_of_gt (kL BK238.out):gb255 ≠ gb238));replace BK238:=mk0 (kK BK238.out hb);clear hb hbox hg;have hnb30:=NB255_238.out;have hnc30:=NB238_255.out;obtain⟨hcz31_0,hcz31_1,hfz31_0,hfz31_1⟩:=cz2 BK255.out;obtain⟨Ao32,co32,eo32⟩:=Kd.R_slice HO254.out;subst eo32)|((with_reducible refine gate_callee (f:=13) rfl ?_);refine goesL_ (some 39) rfl rfl Try.func13 (by kernel_rfl) rfl #[.slice A1 l1.length c1] rfl (by (try simp only [mA,mC,mN]);first|done|rfl|(simp only [List.length_drop,List.length_take];done)|(simp only [List.length_drop,List.length_take];rfl)) ?_;(with_reducible refine (laws_toIntS.calls k _ _ l1 t256 _ ?side1 ?side2 A15.out).mono ?_);(case side1=>exact Kd.C_below HR1.out (kB HB.out));(case side2=>exact HC1.out);rintro e w33 ⟨v257,rfl,ho0,hb⟩;refine⟨_,rfl,?_⟩;replace HO243:=mk0 (Kd.R_below (by (with_reducible repeat (first|apply aR|apply nR|apply dR));exact (Kd.R_mono (Kd.R_far (p:=⟨gb255,1,none⟩) (Kd.R_far (p:=⟨gb255,0,none⟩) (Kd.R_types HO243.out BK255.out (by decide)) (by first|exact fun _ hk=>hk.2|(intro k_ hk;simp only [hk,ne_eq,and_self,not_false_eq_true])) (.int .i64 t251)) (by first|exact fun _ hk=>hk.2|(intro k_ hk;simp only [hk,ne_eq,and_self,not_false_eq_true])) (.slice Ao32 t252.length co32)) (fun _ h_=>h_.1))) hb);replace HO254:=mk0 (Kd.R_below (by (with_reducible repeat (first|apply aR|apply nR|apply dR));exact (Kd.R_mono (Kd.R_far (p:=⟨gb255,1,none⟩) (Kd.R_far (p:=⟨gb255,0,none⟩) (Kd.R_types HO254.out BK255.out (by decide)) (by first|exact fun _ hk=>hk.2|(intro k_ hk;simp only [hk,ne_eq,and_self,not_false_eq_true])) (.int .i64 t251)) (by first|exact fun _ hk=>hk.2|(intro k_ hk;simp only [hk,ne_eq,and_self,not_false_eq_true])) (.slice Ao32 t252.length co32)) (fun _ h_=>h_.1))) hb);have HO258:=mk0 (Kd.R_lower (Kd.R_new' (Kd.R_new' ho0 (Kd.R_lt (by (with_reducible repeat (first|apply aR|apply nR|apply dR));exact (Kd.R_mono (Kd.R_far (p:=⟨gb255,1,none⟩) (Kd.R_far (p:=⟨gb255,0,none⟩) (Kd.R_types HO246.out BK255.out (by decide)) (by first|exact fun _ hk=>hk.2|(intro k_ hk;simp only [hk,ne_eq,and_self,not_false_eq_true])) (.int .i64 t251)) (by first|exact fun _ hk=>hk.2|(intro k_ hk;simp only [hk,ne_eq,and_self,not_false_eq_true])) (.slice Ao32 t252.length co32)) (fun _ h_=>h_.1))))) (Kd.R_lt (by (with_reducible repeat (first|apply aR|apply nR|apply dR));exact (Kd.R_mono (Kd.R_far (p:=⟨gb255,1,none⟩) (Kd.R_far (p:=⟨gb255,0,none⟩) (Kd.R_types HO249.out BK255.out (by decide)) (by first|exact fun _ hk=>hk.2|(intro k_ hk;simp only [hk,ne_eq,and_self,not_false_eq_true])) (.int .i64 t251)) (by first|exact fun _ hk=>hk.2|(intro k_ hk;simp only [hk,ne_eq,and_self,not_false_eq_true])) (.slice Ao32 t252.length co32)) (fun _ h_=>h_.1))))) (kZ HB.out));replace HO246:=mk0 (Kd.R_elder' (by (with_reducible repeat (first|apply aR|apply nR|apply dR));exact (Kd.R_mono (Kd.R_far (p:=⟨gb255,1,none⟩) (Kd.R_far (p:=⟨gb255,0,none⟩) (Kd.R_types HO246.out BK255.out (by decide)) (by first|exact fun _ hk=>hk.2|(intro k_ hk;simp only [hk,ne_eq,and_self,not_false_eq_true])) (.int .i64 t251)) (by first|exact fun _ hk=>hk.2|(intro k_ hk;simp only [hk,ne_eq,and_self,not_false_eq_true])) (.slice Ao32 t252.length co32)) (fun _ h_=>h_.1))) (Kd.R_base ho0) hb);replace HO249:=mk0 (Kd.R_elder' (by (with_reducible repeat (first|apply aR|apply nR|apply dR));exact (Kd.R_mono (Kd.R_far (p:=⟨gb255,1,none⟩) (Kd.R_far (p:=⟨gb255,0,none⟩) (Kd.R_types HO249.out BK255.out (by decide)) (by first|exact fun _ hk=>hk.2|(intro k_ hk;simp only [hk,ne_eq,and_self,not_false_eq_true])) (.int .i64 t251)) (by first|exact fun _ hk=>hk.2|(intro k_ hk;simp only [hk,ne_eq,and_self,not_false_eq_true])) (.slice Ao32 t252.length co32)) (fun _ h_=>h_.1))) (Kd.R_base ho0) hb);replace BK238:=mk0 (blk_below (g:=gb238) (o:=.cells #[.int .i64 a0_0,.slice A0_1 l0_1.length c0_1] 41 (0,0)) (by (with_reducible repeat (first|apply nB|apply dB|apply aB));refine blk_far ?_ NB238_255.out _;(with_reducible repeat (first|apply nB|apply dB|apply aB));refine blk_far ?_ NB238_255.out _;(with_reducible repeat (first|apply nB|apply dB|apply aB));exact BK238.out) hb);replace BK255:=mk0 (blk_below (g:=gb255) (o:=.cells #[.int .i64 t251,.slice Ao32 t252.length co32] 30 (0,0)) (by (with_reducible repeat (first|apply nB|apply dB|apply aB));refine blk_put (cs:=#[.int .i64 t251,.slice none 0 0]) ?_ 1 _ rfl;(with_reducible repeat (first|apply nB|apply dB|apply aB));refine blk_put (cs:=#[.int .i64 0,.slice none 0 0]) ?_ 0 _ rfl;(with_reducible repeat (first|apply nB|apply dB|apply aB));exact BK255.out) hb);replace HB:=mk0 (kS HB.out hb);(try clear hb);(try clear ho0);obtain⟨hcz34_0,hcz34_1,hfz34_0,hfz34_1⟩:=cz2 BK255.out;obtain⟨Ao35,co35,eo35⟩:=Kd.R_slice HO258.out;subst eo35)|((with_reducible refine gate_callee (f:=30) rfl ?_);refine goesL_ (some 44) rfl rfl Try.func30 (by kernel_rfl) rfl #[.agg #[.int .i64 t251,.slice Ao32 t252.length co32],.slice Ao35 t256.length co35,.int .i64 a2] rfl (by (try simp only [mA,mC,mN]);first|done|rfl|(simp only [List.length_drop,List.length_take];done)|(simp only [List.length_drop,List.length_take];rfl)) ?_;(with_reducible refine (impl_HuffRead.calls k t251 _ _ t252 _ _ t256 a2 t259 t262 _ ?side1 ?side2 ?side3 ?side4 A16.out).mono ?_);(case side1=>exact kC (Kd.R_reads' HO254.out).2.2);(case side2=>exact (Kd.R_reads' HO254.out).2.1);(case side3=>exact kC (Kd.R_reads' HO258.out).2.2);(case side4=>exact (Kd.R_reads' HO258.out).2.1);rintro e w36 ⟨v260,rfl,ho0,hb⟩;refine⟨_,rfl,?_⟩;replace HO243:=mk0 (bR HO243.out hb);replace HO254:=mk0 (bR HO254.out hb);have HO261:=mk0 (Kd.R_lower (Kd.R_new' (Kd.R_new' (Kd.R_new' ho0 (Kd.R_lt (rR HO246.out))) (Kd.R_lt (rR HO249.out))) (Kd.R_lt (rR HO258.out))) (kZ HB.out));replace HO246:=mk0 (Kd.R_elder' (rR HO246.out) (Kd.R_base ho0) hb);replace HO249:=mk0 (Kd.R_elder' (rR HO249.out) (Kd.R_base ho0) hb);replace HO258:=mk0 (Kd.R_elder' (rR HO258.out) (Kd.R_base ho0) hb);replace BK238:=mk0 (kK BK238.out hb);replace BK255:=mk0 (kK BK255.out hb);replace HB:=mk0 (kS HB.out hb);(try clear hb);(try clear ho0)))
 (try simp only [Act.put,sA,sO,sS])
 go_cut [55] (fun v55 wc=>∃ (kq:Nat) (x55_16:Bool),v55 = .bool x55_16 ∧ Aside0 (laws_FnExactHuffRead.j0 kq l1 a2 t247 t250 t256 t259 t262 x55_16 a0_0 l0_1 t251 t252 = some r) ∧ Aside0 (kq ≤ k) ∧ Aside0 (Kd.R (Kd.int .i64) 3 wc w.heap.size (fun k_=>some k_ ≠ ((.slice Ao35 t256.length co35):Value).ownBlock ∧ some k_ ≠ (v260:Value).ownBlock) v248 t247) ∧ Aside0 (Kd.R (Kd.int .i64) 3 wc w.heap.size (fun k_=>some k_ ≠ (v248:Value).ownBlock ∧ some k_ ≠ (v260:Value).ownBlock) (.slice Ao35 t256.length co35) t256) ∧ Aside0 (Kd.R (Kd.int .i64) 3 wc w.heap.size (fun k_=>some k_ ≠ (v248:Value).ownBlock ∧ some k_ ≠ ((.slice Ao35 t256.length co35):Value).ownBlock) v260 t259) ∧ Aside0 (Kd.R (Kd.int .u64) 82 wc w.heap.size (fun _=>True) (.slice Ao32 t252.length co32) t252) ∧ Aside0 (wc.heap[gb238]? = some (.cells #[.int .i64 a0_0,(.slice A0_1 l0_1.length c0_1)] 41 (0,0))) ∧ Aside0 (wc.heap[gb255]? = some (.cells #[.int .i64 t251,(.slice Ao32 t252.length co32)] 30 (0,0))) ∧ Aside0 (Below w.heap.size w wc))
 case first =>
  have H:=HC17.out
  clear HC17
  replace H:=Option.bind_eq_some_iff.mp H
  obtain⟨t263,A370,H⟩:=H
  replace H:(if t263 = true then (laws_FnExactHuffRead.j0 k l1 a2 t247 t250 t256 t259 t262 (t262 != t250) a0_0 l0_1 t251 t252) else (laws_FnExactHuffRead.j0 k l1 a2 t247 t250 t256 t259 t262 true a0_0 l0_1 t251 t252)) = some r:=H
  have A37:=mk0 A370
  clear A370
  by_cases c38:t263 = true
  ·subst c38
   have H1:(laws_FnExactHuffRead.j0 k l1 a2 t247 t250 t256 t259 t262 (t262 != t250) a0_0 l0_1 t251 t252) = some r:=by rw [if_pos rfl] at H;exact H
   clear H
   have H:=H1
   clear H1
   have H':=mk0 H
   clear H
   obtain⟨Ao39,co39,eo39⟩:=Kd.R_slice HO261.out
   subst eo39
   obtain⟨Ao40,co40,eo40⟩:=Kd.R_slice HO249.out
   subst eo40
   go_wp2_with (first|((with_reducible refine gate_callee (f:=16) rfl ?_);refine goesL_ (some 49) rfl rfl Try.func16 (by kernel_rfl) rfl #[.slice Ao39 t259.length co39,.slice Ao40 t247.length co40] rfl (by (try simp only [mA,mC,mN]);first|done|rfl|(simp only [List.length_drop,List.length_take];done)|(simp only [List.length_drop,List.length_take];rfl)) ?_;(with_reducible refine (laws_eqIntS.calls k _ _ t259 _ _ t247 true _ ?side1 ?side2 ?side3 ?side4 A37.out).mono ?_);(case side1=>exact kC (Kd.R_reads' HO261.out).2.2);(case side2=>exact (Kd.R_reads' HO261.out).2.1);(case side3=>exact kC (Kd.R_reads' HO249.out).2.2);(case side4=>exact (Kd.R_reads' HO249.out).2.1);rintro e w' ⟨rfl,⟨nd,rfl⟩⟩;refine⟨_,rfl,?_⟩))
   go_meet
   case rel=>exact⟨_,((t262 != t250)),(by first|rfl|(simp;done)|(simp [*];done)),H',⟨by first|omega|exact Nat.le_refl _⟩,⟨by (with_reducible repeat (first|apply aR|apply nR|apply dR));exact Kd.R_mono HO249.out (by first|exact fun _ hk=>⟨hk.1.2,hk.2⟩|(intro k_ hk;simp only [hk,ne_eq,and_self,not_false_eq_true]))⟩,⟨by (with_reducible repeat (first|apply aR|apply nR|apply dR));exact Kd.R_mono HO258.out (by first|exact fun _ hk=>⟨hk.1.2,hk.2⟩|(intro k_ hk;simp only [hk,ne_eq,and_self,not_false_eq_true]))⟩,⟨by (with_reducible repeat (first|apply aR|apply nR|apply dR));exact Kd.R_mono HO261.out (by first|exact fun _ hk=>⟨hk.1.2,hk.2⟩|(intro k_ hk;simp only [hk,ne_eq,and_self,not_false_eq_true]))⟩,⟨rR (Kd.R_mono HO254.out (fun _ hk=>trivial))⟩,⟨kN BK238.out⟩,⟨kN BK255.out⟩,⟨kB HB.out⟩⟩
  replace c38:=Bool.eq_false_iff.mpr c38
  subst c38
  have H1:(laws_FnExactHuffRead.j0 k l1 a2 t247 t250 t256 t259 t262 true a0_0 l0_1 t251 t252) = some r:=by rw [if_neg (show ¬ (false = true) by decide)] at H;exact H
  clear H
  have H:=H1
  clear H1
  have H':=mk0 H
  clear H
  obtain⟨Ao41,co41,eo41⟩:=Kd.R_slice HO261.out
  subst eo41
  obtain⟨Ao42,co42,eo42⟩:=Kd.R_slice HO249.out
  subst eo42
  go_wp2_with (first|((with_reducible refine gate_callee (f:=16) rfl ?_);refine goesL_ (some 49) rfl rfl Try.func16 (by kernel_rfl) rfl #[.slice Ao41 t259.length co41,.slice Ao42 t247.length co42] rfl (by (try simp only [mA,mC,mN]);first|done|rfl|(simp only [List.length_drop,List.length_take];done)|(simp only [List.length_drop,List.length_take];rfl)) ?_;(with_reducible refine (laws_eqIntS.calls k _ _ t259 _ _ t247 false _ ?side1 ?side2 ?side3 ?side4 A37.out).mono ?_);(case side1=>exact kC (Kd.R_reads' HO261.out).2.2);(case side2=>exact (Kd.R_reads' HO261.out).2.1);(case side3=>exact kC (Kd.R_reads' HO249.out).2.2);(case side4=>exact (Kd.R_reads' HO249.out).2.1);rintro e w' ⟨rfl,⟨nd,rfl⟩⟩;refine⟨_,rfl,?_⟩))
  go_meet
  case rel=>exact⟨_,(true),(by first|rfl|(simp;done)|(simp [*];done)),H',⟨by first|omega|exact Nat.le_refl _⟩,⟨by (with_reducible repeat (first|apply aR|apply nR|apply dR));exact Kd.R_mono HO249.out (by first|exact fun _ hk=>⟨hk.1.2,hk.2⟩|(intro k_ hk;simp only [hk,ne_eq,and_self,not_false_eq_true]))⟩,⟨by (with_reducible repeat (first|apply aR|apply nR|apply dR));exact Kd.R_mono HO258.out (by first|exact fun _ hk=>⟨hk.1.2,hk.2⟩|(intro k_ hk;simp only [hk,ne_eq,and_self,not_false_eq_true]))⟩,⟨by (with_reducible repeat (first|apply aR|apply nR|apply dR));exact Kd.R_mono HO261.out (by first|exact fun _ hk=>⟨hk.1.2,hk.2⟩|(intro k_ hk;simp only [hk,ne_eq,and_self,not_false_eq_true]))⟩,⟨rR (Kd.R_mono HO254.out (fun _ hk=>trivial))⟩,⟨kN BK238.out⟩,⟨kN BK255.out⟩,⟨kB HB.out⟩⟩
 case rest =>
  clear HC17
  try clear c1
  try clear c2
  try clear p2
  try clear c3
  try clear c4
  try clear c4b0
  try clear c4b1
  try clear c6
  try clear c7
  try clear c7b0
  try clear c13
  try clear c16
  try clear c27
  try clear c28
  try clear c29
  try clear c30
  try clear c38
  try clear hcz19_0
  try clear hcz19_1
  try clear hcz21_0
  try clear hcz21_1
  try clear hcz27_0
  try clear hcz27_1
  try clear hcz31_0
  try clear hcz31_1
  try clear hcz34_0
  try clear hcz34_1
  try clear hcz9_0
  try clear hcz9_1
  try clear hfz19_0
  try clear hfz19_1
  try clear hfz21_0
  try clear hfz21_1
  try clear hfz27_0
  try clear hfz27_1
  try clear hfz31_0
  try clear hfz31_1
  try clear hfz34_0
  try clear hfz34_1
  try clear hfz9_0
  try clear hfz9_1
  obtain⟨kq,x55_16,rfl,HA,HJ16,HO_8,HO_11,HO_12,HO_256001,BK238,BK255,HB⟩:=hcut
  cases kq with
  | zero=>exact absurd HA.out (by simp [laws_FnExactHuffRead.j0])
  | succ kj16 =>
   have H:=HA.out
   clear HA
   simp only [laws_FnExactHuffRead.j0] at H
   by_cases c43:x55_16 = true
   ·subst c43
    have H1:(some false) = some r:=by rw [if_pos rfl] at H;exact H
    clear H
    have H:=H1
    clear H1
    obtain rfl:=Option.some.inj H
    go_wp2
    go_ret
    exact⟨by first|rfl|(simp [errW_none,errW_some] <;> rfl)|(simp [*,errW_none,errW_some] <;> rfl),kB HB.out⟩
   replace c43:=Bool.eq_false_iff.mpr c43
   subst c43
   have H1:((laws_toBits.f kj16 a0_0 l0_1).bind fun bt264=>((laws_eqBits.f kj16 t251 t252 bt264.1 bt264.2).bind fun t268=>(if t268 = true then ((laws_toIntS.f kj16 l1).bind fun t269=>((laws_eqIntS.f kj16 t256 t269).bind fun t272=>(if t272 = true then ((laws_markBits.f kj16 t251 t252 1).bind fun bt273=>((laws_markIntS.f kj16 t256 bt273.1).bind fun bt275=>(if bt275.1 < 0 then (laws_FnExactHuffRead.j1 kj16 l1 a2 t247 t250 t259 true a0_0 l0_1) else ((laws_eqIntS.f kj16 t259 t247).bind fun t277=>(if t277 = true then (laws_FnExactHuffRead.j1 kj16 l1 a2 t247 t250 t259 (t262 != t250) a0_0 l0_1) else (laws_FnExactHuffRead.j1 kj16 l1 a2 t247 t250 t259 true a0_0 l0_1)))))) else (some false)))) else (some false)))) = some r:=by rw [if_neg (show ¬ (false = true) by decide)] at H;exact H
   clear H
   have H:=H1
   clear H1
   replace H:=Option.bind_eq_some_iff.mp H
   obtain⟨⟨t264,t265⟩,A440,H⟩:=H
   replace H:((laws_eqBits.f kj16 t251 t252 t264 t265).bind fun t268=>(if t268 = true then ((laws_toIntS.f kj16 l1).bind fun t269=>((laws_eqIntS.f kj16 t256 t269).bind fun t272=>(if t272 = true then ((laws_markBits.f kj16 t251 t252 1).bind fun bt273=>((laws_markIntS.f kj16 t256 bt273.1).bind fun bt275=>(if bt275.1 < 0 then (laws_FnExactHuffRead.j1 kj16 l1 a2 t247 t250 t259 true a0_0 l0_1) else ((laws_eqIntS.f kj16 t259 t247).bind fun t277=>(if t277 = true then (laws_FnExactHuffRead.j1 kj16 l1 a2 t247 t250 t259 (t262 != t250) a0_0 l0_1) else (laws_FnExactHuffRead.j1 kj16 l1 a2 t247 t250 t259 true a0_0 l0_1)))))) else (some false)))) else (some false))) = some r:=H
   have A44:=mk0 A440
   clear A440
   replace H:=Option.bind_eq_some_iff.mp H
   obtain⟨t268,A450,H⟩:=H
   replace H:(if t268 = true then ((laws_toIntS.f kj16 l1).bind fun t269=>((laws_eqIntS.f kj16 t256 t269).bind fun t272=>(if t272 = true then ((laws_markBits.f kj16 t251 t252 1).bind fun bt273=>((laws_markIntS.f kj16 t256 bt273.1).bind fun bt275=>(if bt275.1 < 0 then (laws_FnExactHuffRead.j1 kj16 l1 a2 t247 t250 t259 true a0_0 l0_1) else ((laws_eqIntS.f kj16 t259 t247).bind fun t277=>(if t277 = true then (laws_FnExactHuffRead.j1 kj16 l1 a2 t247 t250 t259 (t262 != t250) a0_0 l0_1) else (laws_FnExactHuffRead.j1 kj16 l1 a2 t247 t250 t259 true a0_0 l0_1)))))) else (some false)))) else (some false)) = some r:=H
   have A45:=mk0 A450
   clear A450
   by_cases c46:t268 = true
   rotate_left
   ·replace c46:=Bool.eq_false_iff.mpr c46
    subst c46
    have H1:(some false) = some r:=by rw [if_neg (show ¬ (false = true) by decide)] at H;exact H
    clear H
    have H:=H1
    clear H1
    obtain rfl:=Option.some.inj H
    try go_wp2
    replace HO_8:=mk0 (dR HO_8.out)
    replace HO_11:=mk0 (dR HO_11.out)
    replace HO_12:=mk0 (dR HO_12.out)
    replace HO_256001:=mk0 (dR HO_256001.out)
    replace BK238:=mk0 (dB BK238.out)
    replace BK255:=mk0 (dB BK255.out)
    replace HB:=mk0 (dZ HB.out)
    refine start_ (n:=5) (S:=fun w'=>w'.cell? ⟨gb255,0,none⟩ = some (.int .i64 t251) ∧ w'.cell? ⟨gb255,1,none⟩ = some (.slice Ao32 t252.length co32) ∧ w'.cell? ⟨gb238,0,none⟩ = some (.int .i64 a0_0) ∧ w'.cell? ⟨gb238,1,none⟩ = some (.slice A0_1 l0_1.length c0_1)) (ds:=[]) #[false,false,false,false,false] (by kernel_rfl) rfl rfl ⟨(blk_cell BK255.out 0).trans rfl,(blk_cell BK255.out 1).trans rfl,(blk_cell BK238.out 0).trans rfl,(blk_cell BK238.out 1).trans rfl⟩ (fun hHeld=>?_)
    generalize wc.drew = w108 at HO_8 HO_11 HO_12 HO_256001 BK238 BK255 HB hHeld ⊢
    refine take_ (i:=0) (N:=some 56) (v:=?_) (a':=?_) #[true,false,false,false,false] rfl rfl (by kernel_rfl) (fun _ _ _ h=>h) (Or.inl ⟨by rfl,?_⟩) hHeld ?_ ?_
    rotate_left
    ·rintro w' ⟨s0,s1,s2,s3⟩
     go_simp
     with_reducible rfl
    rotate_left
    ·simp only [Act.put,sA,sO,sS,i64_w,i32_w]
     rfl
    refine take_ (i:=1) (N:=some 57) (v:=?_) (a':=?_) #[true,true,false,false,false] rfl rfl (by kernel_rfl) (fun _ _ _ h=>h) (Or.inl ⟨by rfl,?_⟩) hHeld ?_ ?_
    rotate_left
    ·rintro w' ⟨s0,s1,s2,s3⟩
     go_simp
     with_reducible rfl
    rotate_left
    ·simp only [Act.put,sA,sO,sS,i64_w,i32_w]
     rfl
    refine one_ (i:=2) (N:=some 58) #[true,true,true,false,false] rfl rfl (by kernel_rfl) (by decide) (fun K hK=>?_)
    refine goes_ Try.func29 (by kernel_rfl) rfl #[.agg #[.int .i64 a0_0,.slice A0_1 l0_1.length c0_1]] (by rfl) rfl rfl (by (try simp only [mA,mC,mN]);first|done|rfl|(simp only [List.length_drop,List.length_take];done)|(simp only [List.length_drop,List.length_take];rfl)) ?_
    with_reducible refine (laws_toBits.calls kj16 a0_0 _ _ l0_1 t264 t265 _ ?side1 ?side2 A44.out).mono ?_
    (case side1=>exact kC (Kd.C_below HR0_1.out HB.out))
    (case side2=>exact HC0_1.out)
    rintro e w109 ⟨v266,rfl,ho0,hb⟩
    refine⟨_,rfl,?_⟩
    replace HO_8:=mk0 (bR HO_8.out hb)
    replace HO_11:=mk0 (bR HO_11.out hb)
    replace HO_12:=mk0 (bR HO_12.out hb)
    have HO267:=mk0 (Kd.R_lower (Kd.R_new' ho0 (Kd.R_lt (rR HO_256001.out))) (kZ HB.out))
    replace HO_256001:=mk0 (Kd.R_elder' (rR HO_256001.out) (Kd.R_base ho0) hb)
    replace BK238:=mk0 (kK BK238.out hb)
    replace BK255:=mk0 (kK BK255.out hb)
    replace HB:=mk0 (kS HB.out hb)
    (try clear hb)
    (try clear ho0)
    obtain⟨Ao110,co110,eo110⟩:=Kd.R_slice HO267.out
    (first|subst eo110|(injection eo110 with f1_ f2_ f3_;have f4_:=f1_.symm;have f5_:=f3_.symm;clear f1_ f2_ f3_;subst f4_;subst f5_))
    refine hK.out _ _ ⟨(blk_cell BK255.out 0).trans rfl,(blk_cell BK255.out 1).trans rfl,(blk_cell BK238.out 0).trans rfl,(blk_cell BK238.out 1).trans rfl⟩ (fun hHeld=>?_)
    clear hK K
    refine norm_ (a':=?_) ?_ ?_
    rotate_left
    ·show Act.put _ (some 58) _ = _
     simp only [Act.put,sA,sO,sS,i64_w,i32_w]
     rfl
    refine one_ (i:=3) (N:=some 59) #[true,true,true,true,false] rfl rfl (by kernel_rfl) (by decide) (fun K hK=>?_)
    refine goes_ Try.func15 (by kernel_rfl) rfl #[.agg #[.int .i64 t251,.slice Ao32 t252.length co32],.agg #[.int .i64 t264,.slice Ao110 t265.length co110]] (by rfl) rfl rfl (by (try simp only [mA,mC,mN]);first|done|rfl|(simp only [List.length_drop,List.length_take];done)|(simp only [List.length_drop,List.length_take];rfl)) ?_
    with_reducible refine (laws_eqBits.calls kj16 t251 _ _ t252 t264 _ _ t265 false _ ?side1 ?side2 ?side3 ?side4 A45.out).mono ?_
    (case side1=>exact kC (Kd.R_reads' HO_256001.out).2.2)
    (case side2=>exact (Kd.R_reads' HO_256001.out).2.1)
    (case side3=>exact kC (Kd.R_reads' HO267.out).2.2)
    (case side4=>exact (Kd.R_reads' HO267.out).2.1)
    rintro e w111 ⟨rfl,hb⟩
    refine⟨_,rfl,?_⟩
    replace HO_8:=mk0 (bR HO_8.out hb)
    replace HO_11:=mk0 (bR HO_11.out hb)
    replace HO_12:=mk0 (bR HO_12.out hb)
    replace HO_256001:=mk0 (bR HO_256001.out hb)
    replace HO267:=mk0 (bR HO267.out hb)
    replace BK238:=mk0 (kK BK238.out hb)
    replace BK255:=mk0 (kK BK255.out hb)
    replace HB:=mk0 (kS HB.out hb)
    (try clear hb)
    refine hK.out _ _ ⟨(blk_cell BK255.out 0).trans rfl,(blk_cell BK255.out 1).trans rfl,(blk_cell BK238.out 0).trans rfl,(blk_cell BK238.out 1).trans rfl⟩ (fun hHeld=>?_)
    clear hK K
    refine norm_ (a':=?_) ?_ ?_
    rotate_left
    ·show Act.put _ (some 59) _ = _
     simp only [Act.put,sA,sO,sS,i64_w,i32_w]
     rfl
    refine pure_ (i:=4) (N:=some 60) (v:=?_) (a':=?_) #[true,true,true,true,true] rfl rfl (by kernel_rfl) (fun _ _ _ h=>h) (Or.inl ⟨by rfl,?_⟩) ?_ ?_
    rotate_left
    ·intro w'
     go_simp
     with_reducible rfl
    rotate_left
    ·simp only [Act.put,sA,sO,sS,i64_w,i32_w]
     rfl
    refine done_ (by kernel_rfl) ?_
    try go_wp2
    go_ret
    exact⟨by first|rfl|(simp [errW_none,errW_some] <;> rfl)|(simp [*,errW_none,errW_some] <;> rfl),kB HB.out⟩

   subst c46
   have H1:((laws_toIntS.f kj16 l1).bind fun t269=>((laws_eqIntS.f kj16 t256 t269).bind fun t272=>(if t272 = true then ((laws_markBits.f kj16 t251 t252 1).bind fun bt273=>((laws_markIntS.f kj16 t256 bt273.1).bind fun bt275=>(if bt275.1 < 0 then (laws_FnExactHuffRead.j1 kj16 l1 a2 t247 t250 t259 true a0_0 l0_1) else ((laws_eqIntS.f kj16 t259 t247).bind fun t277=>(if t277 = true then (laws_FnExactHuffRead.j1 kj16 l1 a2 t247 t250 t259 (t262 != t250) a0_0 l0_1) else (laws_FnExactHuffRead.j1 kj16 l1 a2 t247 t250 t259 true a0_0 l0_1)))))) else (some false)))) = some r:=by rw [if_pos rfl] at H;exact H
   clear H
   have H:=H1
   clear H1
   replace H:=Option.bind_eq_some_iff.mp H
   obtain⟨t269,A470,H⟩:=H
   replace H:((laws_eqIntS.f kj16 t256 t269).bind fun t272=>(if t272 = true then ((laws_markBits.f kj16 t251 t252 1).bind fun bt273=>((laws_markIntS.f kj16 t256 bt273.1).bind fun bt275=>(if bt275.1 < 0 then (laws_FnExactHuffRead.j1 kj16 l1 a2 t247 t250 t259 true a0_0 l0_1) else ((laws_eqIntS.f kj16 t259 t247).bind fun t277=>(if t277 = true then (laws_FnExactHuffRead.j1 kj16 l1 a2 t247 t250 t259 (t262 != t250) a0_0 l0_1) else (laws_FnExactHuffRead.j1 kj16 l1 a2 t247 t250 t259 true a0_0 l0_1)))))) else (some false))) = some r:=H
   have A47:=mk0 A470
   clear A470
   replace H:=Option.bind_eq_some_iff.mp H
   obtain⟨t272,A480,H⟩:=H
   replace H:(if t272 = true then ((laws_markBits.f kj16 t251 t252 1).bind fun bt273=>((laws_markIntS.f kj16 t256 bt273.1).bind fun bt275=>(if bt275.1 < 0 then (laws_FnExactHuffRead.j1 kj16 l1 a2 t247 t250 t259 true a0_0 l0_1) else ((laws_eqIntS.f kj16 t259 t247).bind fun t277=>(if t277 = true then (laws_FnExactHuffRead.j1 kj16 l1 a2 t247 t250 t259 (t262 != t250) a0_0 l0_1) else (laws_FnExactHuffRead.j1 kj16 l1 a2 t247 t250 t259 true a0_0 l0_1)))))) else (some false)) = some r:=H
   have A48:=mk0 A480
   clear A480
   by_cases c49:t272 = true
   rotate_left
   ·replace c49:=Bool.eq_false_iff.mpr c49
    subst c49
    have H1:(some false) = some r:=by rw [if_neg (show ¬ (false = true) by decide)] at H;exact H
    clear H
    have H:=H1
    clear H1
    obtain rfl:=Option.some.inj H
    try go_wp2
    replace HO_8:=mk0 (dR HO_8.out)
    replace HO_11:=mk0 (dR HO_11.out)
    replace HO_12:=mk0 (dR HO_12.out)
    replace HO_256001:=mk0 (dR HO_256001.out)
    replace BK238:=mk0 (dB BK238.out)
    replace BK255:=mk0 (dB BK255.out)
    replace HB:=mk0 (dZ HB.out)
    refine start_ (n:=5) (S:=fun w'=>w'.cell? ⟨gb255,0,none⟩ = some (.int .i64 t251) ∧ w'.cell? ⟨gb255,1,none⟩ = some (.slice Ao32 t252.length co32) ∧ w'.cell? ⟨gb238,0,none⟩ = some (.int .i64 a0_0) ∧ w'.cell? ⟨gb238,1,none⟩ = some (.slice A0_1 l0_1.length c0_1)) (ds:=[]) #[false,false,false,false,false] (by kernel_rfl) rfl rfl ⟨(blk_cell BK255.out 0).trans rfl,(blk_cell BK255.out 1).trans rfl,(blk_cell BK238.out 0).trans rfl,(blk_cell BK238.out 1).trans rfl⟩ (fun hHeld=>?_)
    generalize wc.drew = w102 at HO_8 HO_11 HO_12 HO_256001 BK238 BK255 HB hHeld ⊢
    refine take_ (i:=0) (N:=some 56) (v:=?_) (a':=?_) #[true,false,false,false,false] rfl rfl (by kernel_rfl) (fun _ _ _ h=>h) (Or.inl ⟨by rfl,?_⟩) hHeld ?_ ?_
    rotate_left
    ·rintro w' ⟨s0,s1,s2,s3⟩
     go_simp
     with_reducible rfl
    rotate_left
    ·simp only [Act.put,sA,sO,sS,i64_w,i32_w]
     rfl
    refine take_ (i:=1) (N:=some 57) (v:=?_) (a':=?_) #[true,true,false,false,false] rfl rfl (by kernel_rfl) (fun _ _ _ h=>h) (Or.inl ⟨by rfl,?_⟩) hHeld ?_ ?_
    rotate_left
    ·rintro w' ⟨s0,s1,s2,s3⟩
     go_simp
     with_reducible rfl
    rotate_left
    ·simp only [Act.put,sA,sO,sS,i64_w,i32_w]
     rfl
    refine one_ (i:=2) (N:=some 58) #[true,true,true,false,false] rfl rfl (by kernel_rfl) (by decide) (fun K hK=>?_)
    refine goes_ Try.func29 (by kernel_rfl) rfl #[.agg #[.int .i64 a0_0,.slice A0_1 l0_1.length c0_1]] (by rfl) rfl rfl (by (try simp only [mA,mC,mN]);first|done|rfl|(simp only [List.length_drop,List.length_take];done)|(simp only [List.length_drop,List.length_take];rfl)) ?_
    with_reducible refine (laws_toBits.calls kj16 a0_0 _ _ l0_1 t264 t265 _ ?side1 ?side2 A44.out).mono ?_
    (case side1=>exact kC (Kd.C_below HR0_1.out HB.out))
    (case side2=>exact HC0_1.out)
    rintro e w103 ⟨v266,rfl,ho0,hb⟩
    refine⟨_,rfl,?_⟩
    replace HO_8:=mk0 (bR HO_8.out hb)
    replace HO_11:=mk0 (bR HO_11.out hb)
    replace HO_12:=mk0 (bR HO_12.out hb)
    have HO267:=mk0 (Kd.R_lower (Kd.R_new' ho0 (Kd.R_lt (rR HO_256001.out))) (kZ HB.out))
    replace HO_256001:=mk0 (Kd.R_elder' (rR HO_256001.out) (Kd.R_base ho0) hb)
    replace BK238:=mk0 (kK BK238.out hb)
    replace BK255:=mk0 (kK BK255.out hb)
    replace HB:=mk0 (kS HB.out hb)
    (try clear hb)
    (try clear ho0)
    obtain⟨Ao104,co104,eo104⟩:=Kd.R_slice HO267.out
    (first|subst eo104|(injection eo104 with f1_ f2_ f3_;have f4_:=f1_.symm;have f5_:=f3_.symm;clear f1_ f2_ f3_;subst f4_;subst f5_))
    refine hK.out _ _ ⟨(blk_cell BK255.out 0).trans rfl,(blk_cell BK255.out 1).trans rfl,(blk_cell BK238.out 0).trans rfl,(blk_cell BK238.out 1).trans rfl⟩ (fun hHeld=>?_)
    clear hK K
    refine norm_ (a':=?_) ?_ ?_
    rotate_left
    ·show Act.put _ (some 58) _ = _
     simp only [Act.put,sA,sO,sS,i64_w,i32_w]
     rfl
    refine one_ (i:=3) (N:=some 59) #[true,true,true,true,false] rfl rfl (by kernel_rfl) (by decide) (fun K hK=>?_)
    refine goes_ Try.func15 (by kernel_rfl) rfl #[.agg #[.int .i64 t251,.slice Ao32 t252.length co32],.agg #[.int .i64 t264,.slice Ao104 t265.length co104]] (by rfl) rfl rfl (by (try simp only [mA,mC,mN]);first|done|rfl|(simp only [List.length_drop,List.length_take];done)|(simp only [List.length_drop,List.length_take];rfl)) ?_
    with_reducible refine (laws_eqBits.calls kj16 t251 _ _ t252 t264 _ _ t265 true _ ?side1 ?side2 ?side3 ?side4 A45.out).mono ?_
    (case side1=>exact kC (Kd.R_reads' HO_256001.out).2.2)
    (case side2=>exact (Kd.R_reads' HO_256001.out).2.1)
    (case side3=>exact kC (Kd.R_reads' HO267.out).2.2)
    (case side4=>exact (Kd.R_reads' HO267.out).2.1)
    rintro e w105 ⟨rfl,hb⟩
    refine⟨_,rfl,?_⟩
    replace HO_8:=mk0 (bR HO_8.out hb)
    replace HO_11:=mk0 (bR HO_11.out hb)
    replace HO_12:=mk0 (bR HO_12.out hb)
    replace HO_256001:=mk0 (bR HO_256001.out hb)
    replace HO267:=mk0 (bR HO267.out hb)
    replace BK238:=mk0 (kK BK238.out hb)
    replace BK255:=mk0 (kK BK255.out hb)
    replace HB:=mk0 (kS HB.out hb)
    (try clear hb)
    refine hK.out _ _ ⟨(blk_cell BK255.out 0).trans rfl,(blk_cell BK255.out 1).trans rfl,(blk_cell BK238.out 0).trans rfl,(blk_cell BK238.out 1).trans rfl⟩ (fun hHeld=>?_)
    clear hK K
    refine norm_ (a':=?_) ?_ ?_
    rotate_left
    ·show Act.put _ (some 59) _ = _
     simp only [Act.put,sA,sO,sS,i64_w,i32_w]
     rfl
    refine pure_ (i:=4) (N:=some 60) (v:=?_) (a':=?_) #[true,true,true,true,true] rfl rfl (by kernel_rfl) (fun _ _ _ h=>h) (Or.inl ⟨by rfl,?_⟩) ?_ ?_
    rotate_left
    ·intro w'
     go_simp
     with_reducible rfl
    rotate_left
    ·simp only [Act.put,sA,sO,sS,i64_w,i32_w]
     rfl
    refine done_ (by kernel_rfl) ?_
    try go_wp2_with (first|((with_reducible refine gate_callee (f:=13) rfl ?_);refine goesL_ (some 63) rfl rfl Try.func13 (by kernel_rfl) rfl #[.slice A1 l1.length c1] rfl (by (try simp only [mA,mC,mN]);first|done|rfl|(simp only [List.length_drop,List.length_take];done)|(simp only [List.length_drop,List.length_take];rfl)) ?_;(with_reducible refine (laws_toIntS.calls kj16 _ _ l1 t269 _ ?side1 ?side2 A47.out).mono ?_);(case side1=>exact kC (Kd.C_below HR1.out HB.out));(case side2=>exact HC1.out);rintro e w106 ⟨v270,rfl,ho0,hb⟩;refine⟨_,rfl,?_⟩;replace HO_256001:=mk0 (bR HO_256001.out hb);replace HO267:=mk0 (bR HO267.out hb);have HO271:=mk0 (Kd.R_lower (Kd.R_new' (Kd.R_new' (Kd.R_new' ho0 (Kd.R_lt (rR HO_8.out))) (Kd.R_lt (rR HO_11.out))) (Kd.R_lt (rR HO_12.out))) (kZ HB.out));replace HO_8:=mk0 (Kd.R_elder' (rR HO_8.out) (Kd.R_base ho0) hb);replace HO_11:=mk0 (Kd.R_elder' (rR HO_11.out) (Kd.R_base ho0) hb);replace HO_12:=mk0 (Kd.R_elder' (rR HO_12.out) (Kd.R_base ho0) hb);replace BK238:=mk0 (kK BK238.out hb);replace BK255:=mk0 (kK BK255.out hb);replace HB:=mk0 (kS HB.out hb);(try clear hb);(try clear ho0);obtain⟨Ao107,co107,eo107⟩:=Kd.R_slice HO271.out;subst eo107)|((with_reducible refine gate_callee (f:=16) rfl ?_);refine goesL_ (some 64) rfl rfl Try.func16 (by kernel_rfl) rfl #[.slice Ao35 t256.length co35,.slice Ao107 t269.length co107] rfl (by (try simp only [mA,mC,mN]);first|done|rfl|(simp only [List.length_drop,List.length_take];done)|(simp only [List.length_drop,List.length_take];rfl)) ?_;(with_reducible refine (laws_eqIntS.calls kj16 _ _ t256 _ _ t269 false _ ?side1 ?side2 ?side3 ?side4 A48.out).mono ?_);(case side1=>exact kC (Kd.R_reads' HO_11.out).2.2);(case side2=>exact (Kd.R_reads' HO_11.out).2.1);(case side3=>exact kC (Kd.R_reads' HO271.out).2.2);(case side4=>exact (Kd.R_reads' HO271.out).2.1);rintro e w' ⟨rfl,⟨nd,rfl⟩⟩;refine⟨_,rfl,?_⟩))
    go_ret
    exact⟨by first|rfl|(simp [errW_none,errW_some] <;> rfl)|(simp [*,errW_none,errW_some] <;> rfl),kB HB.out⟩
   subst c49
   have H1:((laws_markBits.f kj16 t251 t252 1).bind fun bt273=>((laws_markIntS.f kj16 t256 bt273.1).bind fun bt275=>(if bt275.1 < 0 then (laws_FnExactHuffRead.j1 kj16 l1 a2 t247 t250 t259 true a0_0 l0_1) else ((laws_eqIntS.f kj16 t259 t247).bind fun t277=>(if t277 = true then (laws_FnExactHuffRead.j1 kj16 l1 a2 t247 t250 t259 (t262 != t250) a0_0 l0_1) else (laws_FnExactHuffRead.j1 kj16 l1 a2 t247 t250 t259 true a0_0 l0_1)))))) = some r:=by rw [if_pos rfl] at H;exact H
   clear H
   have H:=H1
   clear H1
   replace H:=Option.bind_eq_some_iff.mp H
   obtain⟨⟨t273,t274⟩,A500,H⟩:=H
   replace H:((laws_markIntS.f kj16 t256 t273).bind fun bt275=>(if bt275.1 < 0 then (laws_FnExactHuffRead.j1 kj16 l1 a2 t247 t250 t259 true a0_0 l0_1) else ((laws_eqIntS.f kj16 t259 t247).bind fun t277=>(if t277 = true then (laws_FnExactHuffRead.j1 kj16 l1 a2 t247 t250 t259 (t262 != t250) a0_0 l0_1) else (laws_FnExactHuffRead.j1 kj16 l1 a2 t247 t250 t259 true a0_0 l0_1))))) = some r:=H
   have A50:=mk0 A500
   clear A500
   replace H:=Option.bind_eq_some_iff.mp H
   obtain⟨⟨t275,t276⟩,A510,H⟩:=H
   replace H:(if t275 < 0 then (laws_FnExactHuffRead.j1 kj16 l1 a2 t247 t250 t259 true a0_0 l0_1) else ((laws_eqIntS.f kj16 t259 t247).bind fun t277=>(if t277 = true then (laws_FnExactHuffRead.j1 kj16 l1 a2 t247 t250 t259 (t262 != t250) a0_0 l0_1) else (laws_FnExactHuffRead.j1 kj16 l1 a2 t247 t250 t259 true a0_0 l0_1)))) = some r:=H
   have A51:=mk0 A510
   clear A510
   have HC52:=mk0 H
   clear H
   try go_wp2
   replace HO_8:=mk0 (dR HO_8.out)
   replace HO_11:=mk0 (dR HO_11.out)
   replace HO_12:=mk0 (dR HO_12.out)
   replace HO_256001:=mk0 (dR HO_256001.out)
   replace BK238:=mk0 (dB BK238.out)
   replace BK255:=mk0 (dB BK255.out)
   replace HB:=mk0 (dZ HB.out)
   refine start_ (n:=5) (S:=fun w'=>w'.cell? ⟨gb255,0,none⟩ = some (.int .i64 t251) ∧ w'.cell? ⟨gb255,1,none⟩ = some (.slice Ao32 t252.length co32) ∧ w'.cell? ⟨gb238,0,none⟩ = some (.int .i64 a0_0) ∧ w'.cell? ⟨gb238,1,none⟩ = some (.slice A0_1 l0_1.length c0_1)) (ds:=[]) #[false,false,false,false,false] (by kernel_rfl) rfl rfl ⟨(blk_cell BK255.out 0).trans rfl,(blk_cell BK255.out 1).trans rfl,(blk_cell BK238.out 0).trans rfl,(blk_cell BK238.out 1).trans rfl⟩ (fun hHeld=>?_)
   generalize wc.drew = w53 at HO_8 HO_11 HO_12 HO_256001 BK238 BK255 HB hHeld ⊢
   refine take_ (i:=0) (N:=some 56) (v:=?_) (a':=?_) #[true,false,false,false,false] rfl rfl (by kernel_rfl) (fun _ _ _ h=>h) (Or.inl ⟨by rfl,?_⟩) hHeld ?_ ?_
   rotate_left
   ·rintro w' ⟨s0,s1,s2,s3⟩
    go_simp
    with_reducible rfl
   rotate_left
   ·simp only [Act.put,sA,sO,sS,i64_w,i32_w]
    rfl
   refine take_ (i:=1) (N:=some 57) (v:=?_) (a':=?_) #[true,true,false,false,false] rfl rfl (by kernel_rfl) (fun _ _ _ h=>h) (Or.inl ⟨by rfl,?_⟩) hHeld ?_ ?_
   rotate_left
   ·rintro w' ⟨s0,s1,s2,s3⟩
    go_simp
    with_reducible rfl
   rotate_left
   ·simp only [Act.put,sA,sO,sS,i64_w,i32_w]
    rfl
   refine one_ (i:=2) (N:=some 58) #[true,true,true,false,false] rfl rfl (by kernel_rfl) (by decide) (fun K hK=>?_)
   refine goes_ Try.func29 (by kernel_rfl) rfl #[.agg #[.int .i64 a0_0,.slice A0_1 l0_1.length c0_1]] (by rfl) rfl rfl (by (try simp only [mA,mC,mN]);first|done|rfl|(simp only [List.length_drop,List.length_take];done)|(simp only [List.length_drop,List.length_take];rfl)) ?_
   with_reducible refine (laws_toBits.calls kj16 a0_0 _ _ l0_1 t264 t265 _ ?side1 ?side2 A44.out).mono ?_
   (case side1=>exact kC (Kd.C_below HR0_1.out HB.out))
   (case side2=>exact HC0_1.out)
   rintro e w54 ⟨v266,rfl,ho0,hb⟩
   refine⟨_,rfl,?_⟩
   replace HO_8:=mk0 (bR HO_8.out hb)
   replace HO_11:=mk0 (bR HO_11.out hb)
   replace HO_12:=mk0 (bR HO_12.out hb)
   have HO267:=mk0 (Kd.R_lower (Kd.R_new' ho0 (Kd.R_lt (rR HO_256001.out))) (kZ HB.out))
   replace HO_256001:=mk0 (Kd.R_elder' (rR HO_256001.out) (Kd.R_base ho0) hb)
   replace BK238:=mk0 (kK BK238.out hb)
   replace BK255:=mk0 (kK BK255.out hb)
   replace HB:=mk0 (kS HB.out hb)
   (try clear hb)
   (try clear ho0)
   obtain⟨Ao55,co55,eo55⟩:=Kd.R_slice HO267.out
   (first|subst eo55|(injection eo55 with f1_ f2_ f3_;have f4_:=f1_.symm;have f5_:=f3_.symm;clear f1_ f2_ f3_;subst f4_;subst f5_))
   refine hK.out _ _ ⟨(blk_cell BK255.out 0).trans rfl,(blk_cell BK255.out 1).trans rfl,(blk_cell BK238.out 0).trans rfl,(blk_cell BK238.out 1).trans rfl⟩ (fun hHeld=>?_)
   clear hK K
   refine norm_ (a':=?_) ?_ ?_
   rotate_left
   ·show Act.put _ (some 58) _ = _
    simp only [Act.put,sA,sO,sS,i64_w,i32_w]
    rfl
   refine one_ (i:=3) (N:=some 59) #[true,true,true,true,false] rfl rfl (by kernel_rfl) (by decide) (fun K hK=>?_)
   refine goes_ Try.func15 (by kernel_rfl) rfl #[.agg #[.int .i64 t251,.slice Ao32 t252.length co32],.agg #[.int .i64 t264,.slice Ao55 t265.length co55]] (by rfl) rfl rfl (by (try simp only [mA,mC,mN]);first|done|rfl|(simp only [List.length_drop,List.length_take];done)|(simp only [List.length_drop,List.length_take];rfl)) ?_
   with_reducible refine (laws_eqBits.calls kj16 t251 _ _ t252 t264 _ _ t265 true _ ?side1 ?side2 ?side3 ?side4 A45.out).mono ?_
   (case side1=>exact kC (Kd.R_reads' HO_256001.out).2.2)
   (case side2=>exact (Kd.R_reads' HO_256001.out).2.1)
   (case side3=>exact kC (Kd.R_reads' HO267.out).2.2)
   (case side4=>exact (Kd.R_reads' HO267.out).2.1)
   rintro e w56 ⟨rfl,hb⟩
   refine⟨_,rfl,?_⟩
   replace HO_8:=mk0 (bR HO_8.out hb)
   replace HO_11:=mk0 (bR HO_11.out hb)
   replace HO_12:=mk0 (bR HO_12.out hb)
   replace HO_256001:=mk0 (bR HO_256001.out hb)
   replace HO267:=mk0 (bR HO267.out hb)
   replace BK238:=mk0 (kK BK238.out hb)
   replace BK255:=mk0 (kK BK255.out hb)
   replace HB:=mk0 (kS HB.out hb)
   (try clear hb)
   refine hK.out _ _ ⟨(blk_cell BK255.out 0).trans rfl,(blk_cell BK255.out 1).trans rfl,(blk_cell BK238.out 0).trans rfl,(blk_cell BK238.out 1).trans rfl⟩ (fun hHeld=>?_)
   clear hK K
   refine norm_ (a':=?_) ?_ ?_
   rotate_left
   ·show Act.put _ (some 59) _ = _
    simp only [Act.put,sA,sO,sS,i64_w,i32_w]
    rfl
   refine pure_ (i:=4) (N:=some 60) (v:=?_) (a':=?_) #[true,true,true,true,true] rfl rfl (by kernel_rfl) (fun _ _ _ h=>h) (Or.inl ⟨by rfl,?_⟩) ?_ ?_
   rotate_left
   ·intro w'
    go_simp
    with_reducible rfl
   rotate_left
   ·simp only [Act.put,sA,sO,sS,i64_w,i32_w]
    rfl
   refine done_ (by kernel_rfl) ?_
   go_upto_region 20 with (first|((with_reducible refine gate_callee (f:=13) rfl ?_);refine goesL_ (some 63) rfl rfl Try.func13 (by kernel_rfl) rfl #[.slice A1 l1.length c1] rfl (by (try simp only [mA,mC,mN]);first|done|rfl|(simp only [List.length_drop,List.length_take];done)|(simp only [List.length_drop,List.length_take];rfl)) ?_;(with_reducible refine (laws_toIntS.calls kj16 _ _ l1 t269 _ ?side1 ?side2 A47.out).mono ?_);(case side1=>exact kC (Kd.C_below HR1.out HB.out));(case side2=>exact HC1.out);rintro e w57 ⟨v270,rfl,ho0,hb⟩;refine⟨_,rfl,?_⟩;replace HO_256001:=mk0 (bR HO_256001.out hb);replace HO267:=mk0 (bR HO267.out hb);have HO271:=mk0 (Kd.R_lower (Kd.R_new' (Kd.R_new' (Kd.R_new' ho0 (Kd.R_lt (rR HO_8.out))) (Kd.R_lt (rR HO_11.out))) (Kd.R_lt (rR HO_12.out))) (kZ HB.out));replace HO_8:=mk0 (Kd.R_elder' (rR HO_8.out) (Kd.R_base ho0) hb);replace HO_11:=mk0 (Kd.R_elder' (rR HO_11.out) (Kd.R_base ho0) hb);replace HO_12:=mk0 (Kd.R_elder' (rR HO_12.out) (Kd.R_base ho0) hb);replace BK238:=mk0 (kK BK238.out hb);replace BK255:=mk0 (kK BK255.out hb);replace HB:=mk0 (kS HB.out hb);(try clear hb);(try clear ho0);obtain⟨Ao58,co58,eo58⟩:=Kd.R_slice HO271.out;subst eo58)|((with_reducible refine gate_callee (f:=16) rfl ?_);refine goesL_ (some 64) rfl rfl Try.func16 (by kernel_rfl) rfl #[.slice Ao35 t256.length co35,.slice Ao58 t269.length co58] rfl (by (try simp only [mA,mC,mN]);first|done|rfl|(simp only [List.length_drop,List.length_take];done)|(simp only [List.length_drop,List.length_take];rfl)) ?_;(with_reducible refine (laws_eqIntS.calls kj16 _ _ t256 _ _ t269 true _ ?side1 ?side2 ?side3 ?side4 A48.out).mono ?_);(case side1=>exact kC (Kd.R_reads' HO_11.out).2.2);(case side2=>exact (Kd.R_reads' HO_11.out).2.1);(case side3=>exact kC (Kd.R_reads' HO271.out).2.2);(case side4=>exact (Kd.R_reads' HO271.out).2.1);rintro e w' ⟨rfl,⟨nd,rfl⟩⟩;refine⟨_,rfl,?_⟩;have hnb59:=NB255_238.out;have hnc59:=NB238_255.out;obtain⟨hcz60_0,hcz60_1,hfz60_0,hfz60_1⟩:=cz2 BK255.out)|((with_reducible refine gate_callee (f:=18) rfl ?_);refine goesL_ (some 68) rfl rfl Try.func18 (by kernel_rfl) rfl #[.agg #[.int .i64 t251,.slice Ao32 t252.length co32],.int .i64 1] rfl (by (try simp only [mA,mC,mN]);first|done|rfl|(simp only [List.length_drop,List.length_take];done)|(simp only [List.length_drop,List.length_take];rfl)) ?_;(with_reducible refine (laws_markBits.calls kj16 t251 (fun k_=>some k_ = (.slice Ao32 t252.length co32:Value).ownBlock) (.slice Ao32 t252.length co32) t252 1 t273 t274 w _ ?side1 ?side2 A50.out).mono ?_);(case side1=>repeat (first|(with_reducible first|exact HB.out|apply aZ|apply nZ|apply dZ|refine sZ ?_ GE238.out|refine sZ ?_ GE255.out)|exact HB.out));(case side2=>exact Kd.R_tight rfl HO_256001.out);rintro e w61 ⟨rfl,hy0,hb,hkp⟩;refine⟨_,rfl,?_⟩;replace HO_8:=mk0 (Kd.R_mono (ok':=fun k_=>some k_ ≠ (.slice Ao35 t256.length co35:Value).ownBlock ∧ some k_ ≠ (v260:Value).ownBlock ∧ some k_ ≠ (.slice Ao58 t269.length co58:Value).ownBlock) (Kd.R_keptB ((Kd.R_apart' HO_8.out (Kd.R_typed HO_256001.out) (by decide))) hkp (by first|exact fun k_ hk_ hs_=>(hk_.2) hs_|(intro k_ hk_ hs_;exact absurd hs_ (by simp only [hk_,ne_eq,or_self,not_false_eq_true])))) (by first|exact fun k_ hk_=>⟨hk_.1.1.1.1,hk_.1.1.1.2,hk_.1.1.2⟩|(intro k_ hk_;simp only [hk_,ne_eq,and_self,not_false_eq_true])));replace HO_11:=mk0 (Kd.R_mono (ok':=fun k_=>some k_ ≠ (v248:Value).ownBlock ∧ some k_ ≠ (v260:Value).ownBlock ∧ some k_ ≠ (.slice Ao58 t269.length co58:Value).ownBlock) (Kd.R_keptB ((Kd.R_apart' HO_11.out (Kd.R_typed HO_256001.out) (by decide))) hkp (by first|exact fun k_ hk_ hs_=>(hk_.2) hs_|(intro k_ hk_ hs_;exact absurd hs_ (by simp only [hk_,ne_eq,or_self,not_false_eq_true])))) (by first|exact fun k_ hk_=>⟨hk_.1.1.1.1,hk_.1.1.1.2,hk_.1.1.2⟩|(intro k_ hk_;simp only [hk_,ne_eq,and_self,not_false_eq_true])));replace HO_12:=mk0 (Kd.R_mono (ok':=fun k_=>some k_ ≠ (v248:Value).ownBlock ∧ some k_ ≠ (.slice Ao35 t256.length co35:Value).ownBlock ∧ some k_ ≠ (.slice Ao58 t269.length co58:Value).ownBlock) (Kd.R_keptB ((Kd.R_apart' HO_12.out (Kd.R_typed HO_256001.out) (by decide))) hkp (by first|exact fun k_ hk_ hs_=>(hk_.2) hs_|(intro k_ hk_ hs_;exact absurd hs_ (by simp only [hk_,ne_eq,or_self,not_false_eq_true])))) (by first|exact fun k_ hk_=>⟨hk_.1.1.1.1,hk_.1.1.1.2,hk_.1.1.2⟩|(intro k_ hk_;simp only [hk_,ne_eq,and_self,not_false_eq_true])));replace BK238:=mk0 (blk_kept (kN BK238.out) hkp (fun hs_=>(fun e_=>(Kd.R_ne HO_256001.out BK238.out (by decide)) e_) hs_));replace BK255:=mk0 (blk_kept (kN BK255.out) hkp (fun hs_=>(fun e_=>(Kd.R_ne HO_256001.out BK255.out (by decide)) e_) hs_));replace HO267:=mk0 (Kd.R_mono (ok':=fun k_=>some k_ ≠ (.slice Ao32 t252.length co32:Value).ownBlock) (Kd.R_keptB (HO267.out) hkp (by first|exact fun k_ hk_ hs_=>(hk_.2) hs_|(intro k_ hk_ hs_;exact absurd hs_ (by simp only [hk_,ne_eq,or_self,not_false_eq_true])))) (fun k_ hk_=>hk_.1.2));replace HO271:=mk0 (Kd.R_mono (ok':=fun k_=>some k_ ≠ (v248:Value).ownBlock ∧ some k_ ≠ (.slice Ao35 t256.length co35:Value).ownBlock ∧ some k_ ≠ (v260:Value).ownBlock) (Kd.R_keptB ((Kd.R_apart' HO271.out (Kd.R_typed HO_256001.out) (by decide))) hkp (by first|exact fun k_ hk_ hs_=>(hk_.2) hs_|(intro k_ hk_ hs_;exact absurd hs_ (by simp only [hk_,ne_eq,or_self,not_false_eq_true])))) (by first|exact fun k_ hk_=>⟨hk_.1.1.1.1.2,hk_.1.1.1.2,hk_.1.1.2⟩|(intro k_ hk_;simp only [hk_,ne_eq,and_self,not_false_eq_true])));replace HO_256001:=mk0 (Kd.R_reok rfl hy0 (fun k_ e_=>HO_256001.out.1 k_ e_));replace HB:=mk0 (hb);(try clear hb);(try clear hkp);(try clear hy0))|((with_reducible refine gate_callee (f:=17) rfl ?_);refine goesL_ (some 71) rfl rfl Try.func17 (by kernel_rfl) rfl #[.slice Ao35 t256.length co35,.int .i64 t273] rfl (by (try simp only [mA,mC,mN]);first|done|rfl|(simp only [List.length_drop,List.length_take];done)|(simp only [List.length_drop,List.length_take];rfl)) ?_;(with_reducible refine (laws_markIntS.calls kj16 (fun k_=>some k_ = (.slice Ao35 t256.length co35:Value).ownBlock) (.slice Ao35 t256.length co35) t256 t273 t275 t276 w _ ?side1 ?side2 A51.out).mono ?_);(case side1=>repeat (first|(with_reducible first|exact HB.out|apply aZ|apply nZ|apply dZ|refine sZ ?_ GE238.out|refine sZ ?_ GE255.out)|exact HB.out));(case side2=>exact Kd.R_tight rfl HO_11.out);rintro e w62 ⟨rfl,hy0,hb,hkp⟩;refine⟨_,rfl,?_⟩;replace HO_8:=mk0 (Kd.R_mono (ok':=fun k_=>some k_ ≠ (.slice Ao35 t256.length co35:Value).ownBlock ∧ some k_ ≠ (v260:Value).ownBlock ∧ some k_ ≠ (.slice Ao58 t269.length co58:Value).ownBlock) (Kd.R_keptB (HO_8.out) hkp (by first|exact fun k_ hk_ hs_=>(hk_.1) hs_|(intro k_ hk_ hs_;exact absurd hs_ (by simp only [hk_,ne_eq,or_self,not_false_eq_true])))) (by first|exact fun k_ hk_=>⟨hk_.1.1,hk_.1.2.1,hk_.1.2.2⟩|(intro k_ hk_;simp only [hk_,ne_eq,and_self,not_false_eq_true])));replace HO_12:=mk0 (Kd.R_mono (ok':=fun k_=>some k_ ≠ (v248:Value).ownBlock ∧ some k_ ≠ (.slice Ao35 t256.length co35:Value).ownBlock ∧ some k_ ≠ (.slice Ao58 t269.length co58:Value).ownBlock) (Kd.R_keptB (HO_12.out) hkp (by first|exact fun k_ hk_ hs_=>(hk_.2.1) hs_|(intro k_ hk_ hs_;exact absurd hs_ (by simp only [hk_,ne_eq,or_self,not_false_eq_true])))) (by first|exact fun k_ hk_=>⟨hk_.1.1,hk_.1.2.1,hk_.1.2.2⟩|(intro k_ hk_;simp only [hk_,ne_eq,and_self,not_false_eq_true])));replace HO_256001:=mk0 (Kd.R_mono (ok':=fun k_=>some k_ ≠ (.slice Ao55 t265.length co55:Value).ownBlock) (Kd.R_keptB ((Kd.R_apart' HO_256001.out (Kd.R_typed HO_11.out) (by decide))) hkp (by first|exact fun k_ hk_ hs_=>(hk_.2) hs_|(intro k_ hk_ hs_;exact absurd hs_ (by simp only [hk_,ne_eq,or_self,not_false_eq_true])))) (fun k_ hk_=>hk_.1.1.2));replace BK238:=mk0 (blk_kept (kN BK238.out) hkp (fun hs_=>(fun e_=>(Kd.R_ne HO_11.out BK238.out (by decide)) e_) hs_));replace BK255:=mk0 (blk_kept (kN BK255.out) hkp (fun hs_=>(fun e_=>(Kd.R_ne HO_11.out BK255.out (by decide)) e_) hs_));replace HO267:=mk0 (Kd.R_mono (ok':=fun k_=>some k_ ≠ (.slice Ao32 t252.length co32:Value).ownBlock) (Kd.R_keptB ((Kd.R_apart' HO267.out (Kd.R_typed HO_11.out) (by decide))) hkp (by first|exact fun k_ hk_ hs_=>(hk_.2) hs_|(intro k_ hk_ hs_;exact absurd hs_ (by simp only [hk_,ne_eq,or_self,not_false_eq_true])))) (fun k_ hk_=>hk_.1.1));replace HO_11:=mk0 (Kd.R_reok rfl hy0 (fun k_ e_=>HO_11.out.1 k_ e_));replace HO271:=mk0 (Kd.R_mono (ok':=fun k_=>some k_ ≠ (v248:Value).ownBlock ∧ some k_ ≠ (.slice Ao35 t256.length co35:Value).ownBlock ∧ some k_ ≠ (v260:Value).ownBlock) (Kd.R_keptB (HO271.out) hkp (by first|exact fun k_ hk_ hs_=>(hk_.2.1) hs_|(intro k_ hk_ hs_;exact absurd hs_ (by simp only [hk_,ne_eq,or_self,not_false_eq_true])))) (by first|exact fun k_ hk_=>⟨hk_.1.1,hk_.1.2.1,hk_.1.2.2⟩|(intro k_ hk_;simp only [hk_,ne_eq,and_self,not_false_eq_true])));replace HB:=mk0 (hb);(try clear hb);(try clear hkp);(try clear hy0)))
   (try simp only [Act.put,sA,sO,sS])
   go_cut [84] (fun v84 wc=>∃ (kq:Nat) (x84_51:Bool),v84 = .bool x84_51 ∧ Aside0 (laws_FnExactHuffRead.j1 kq l1 a2 t247 t250 t259 x84_51 a0_0 l0_1 = some r) ∧ Aside0 (kq ≤ kj16) ∧ Aside0 (Kd.R (Kd.int .i64) 3 wc w.heap.size (fun k_=>some k_ ≠ (v260:Value).ownBlock) v248 t247) ∧ Aside0 (Kd.R (Kd.int .i64) 3 wc w.heap.size (fun k_=>some k_ ≠ (v248:Value).ownBlock) v260 t259) ∧ Aside0 (Kd.R (Kd.int .u64) 82 wc w.heap.size (fun _=>True) (.slice Ao32 t252.length co32) t274) ∧ Aside0 (wc.heap[gb238]? = some (.cells #[.int .i64 a0_0,(.slice A0_1 l0_1.length c0_1)] 41 (0,0))) ∧ Aside0 (wc.heap[gb255]? = some (.cells #[.int .i64 t251,(.slice Ao32 t252.length co32)] 30 (0,0))) ∧ Aside0 (Below w.heap.size w wc))
   case first =>
    have H:=HC52.out
    clear HC52
    by_cases c63:t275 < 0
    ·rw [if_pos c63] at H
     have c63b0:decide (t275 < 0) = true:=decide_eq_true c63
     clear c63
     (first|rw [c63b0]|(simp only [i64_w,i32_w];rw [c63b0])|skip)
     have H':=mk0 H
     clear H
     go_wp2
     go_meet
     case rel=>exact⟨_,(true),(by first|rfl|(simp;done)|(simp [*];done)),H',⟨by have:=HJ16.out;first|omega|exact Nat.le_refl _⟩,⟨by (with_reducible repeat (first|apply aR|apply nR|apply dR));exact Kd.R_mono HO_8.out (by first|exact fun _ hk=>hk.2.1|(intro k_ hk;simp only [hk,ne_eq,and_self,not_false_eq_true]))⟩,⟨by (with_reducible repeat (first|apply aR|apply nR|apply dR));exact Kd.R_mono HO_12.out (by first|exact fun _ hk=>hk.1|(intro k_ hk;simp only [hk,ne_eq,and_self,not_false_eq_true]))⟩,⟨rR (Kd.R_mono HO_256001.out (fun _ hk=>trivial))⟩,⟨kN BK238.out⟩,⟨kN BK255.out⟩,⟨kB HB.out⟩⟩
    rw [if_neg c63] at H
    have c63b0:decide (t275 < 0) = false:=decide_eq_false c63
    clear c63
    (first|rw [c63b0]|(simp only [i64_w,i32_w];rw [c63b0])|skip)
    replace H:=Option.bind_eq_some_iff.mp H
    obtain⟨t277,A640,H⟩:=H
    replace H:(if t277 = true then (laws_FnExactHuffRead.j1 kj16 l1 a2 t247 t250 t259 (t262 != t250) a0_0 l0_1) else (laws_FnExactHuffRead.j1 kj16 l1 a2 t247 t250 t259 true a0_0 l0_1)) = some r:=H
    have A64:=mk0 A640
    clear A640
    by_cases c65:t277 = true
    ·subst c65
     have H1:(laws_FnExactHuffRead.j1 kj16 l1 a2 t247 t250 t259 (t262 != t250) a0_0 l0_1) = some r:=by rw [if_pos rfl] at H;exact H
     clear H
     have H:=H1
     clear H1
     have H':=mk0 H
     clear H
     obtain⟨Ao66,co66,eo66⟩:=Kd.R_slice HO_12.out
     subst eo66
     obtain⟨Ao67,co67,eo67⟩:=Kd.R_slice HO_8.out
     subst eo67
     go_wp2_with (first|(go_at_call 16;(with_reducible refine (laws_eqIntS.calls kj16 _ _ t259 _ _ t247 true _ ?side1 ?side2 ?side3 ?side4 A64.out).mono ?_);(case side1=>exact kC (Kd.R_reads' HO_12.out).2.2);(case side2=>exact (Kd.R_reads' HO_12.out).2.1);(case side3=>exact kC (Kd.R_reads' HO_8.out).2.2);(case side4=>exact (Kd.R_reads' HO_8.out).2.1);rintro e w' ⟨rfl,⟨nd,rfl⟩⟩))
     go_meet
     case rel=>exact⟨_,((t262 != t250)),(by first|rfl|(simp;done)|(simp [*];done)),H',⟨by have:=HJ16.out;first|omega|exact Nat.le_refl _⟩,⟨by (with_reducible repeat (first|apply aR|apply nR|apply dR));exact Kd.R_mono HO_8.out (by first|exact fun _ hk=>hk.2.1|(intro k_ hk;simp only [hk,ne_eq,and_self,not_false_eq_true]))⟩,⟨by (with_reducible repeat (first|apply aR|apply nR|apply dR));exact Kd.R_mono HO_12.out (by first|exact fun _ hk=>hk.1|(intro k_ hk;simp only [hk,ne_eq,and_self,not_false_eq_true]))⟩,⟨rR (Kd.R_mono HO_256001.out (fun _ hk=>trivial))⟩,⟨kN BK238.out⟩,⟨kN BK255.out⟩,⟨kB HB.out⟩⟩
    replace c65:=Bool.eq_false_iff.mpr c65
    subst c65
    have H1:(laws_FnExactHuffRead.j1 kj16 l1 a2 t247 t250 t259 true a0_0 l0_1) = some r:=by rw [if_neg (show ¬ (false = true) by decide)] at H;exact H
    clear H
    have H:=H1
    clear H1
    have H':=mk0 H
    clear H
    obtain⟨Ao68,co68,eo68⟩:=Kd.R_slice HO_12.out
    subst eo68
    obtain⟨Ao69,co69,eo69⟩:=Kd.R_slice HO_8.out
    subst eo69
    go_wp2_with (first|(go_at_call 16;(with_reducible refine (laws_eqIntS.calls kj16 _ _ t259 _ _ t247 false _ ?side1 ?side2 ?side3 ?side4 A64.out).mono ?_);(case side1=>exact kC (Kd.R_reads' HO_12.out).2.2);(case side2=>exact (Kd.R_reads' HO_12.out).2.1);(case side3=>exact kC (Kd.R_reads' HO_8.out).2.2);(case side4=>exact (Kd.R_reads' HO_8.out).2.1);rintro e w' ⟨rfl,⟨nd,rfl⟩⟩))
    go_meet
    case rel=>exact⟨_,(true),(by first|rfl|(simp;done)|(simp [*];done)),H',⟨by have:=HJ16.out;first|omega|exact Nat.le_refl _⟩,⟨by (with_reducible repeat (first|apply aR|apply nR|apply dR));exact Kd.R_mono HO_8.out (by first|exact fun _ hk=>hk.2.1|(intro k_ hk;simp only [hk,ne_eq,and_self,not_false_eq_true]))⟩,⟨by (with_reducible repeat (first|apply aR|apply nR|apply dR));exact Kd.R_mono HO_12.out (by first|exact fun _ hk=>hk.1|(intro k_ hk;simp only [hk,ne_eq,and_self,not_false_eq_true]))⟩,⟨rR (Kd.R_mono HO_256001.out (fun _ hk=>trivial))⟩,⟨kN BK238.out⟩,⟨kN BK255.out⟩,⟨kB HB.out⟩⟩
   case rest =>
    clear HC52
    try clear c1
    try clear c2
    try clear p2
    try clear c3
    try clear c4
    try clear c4b0
    try clear c4b1
    try clear c5
    try clear c6
    try clear c7
    try clear c7b0
    try clear c13
    try clear c15
    try clear c16
    try clear c17
    try clear c18
    try clear c27
    try clear c28
    try clear c29
    try clear c30
    try clear c38
    try clear c43
    try clear c46
    try clear c49
    try clear c59
    try clear c63
    try clear c63b0
    try clear c65
    try clear hcz19_0
    try clear hcz19_1
    try clear hcz21_0
    try clear hcz21_1
    try clear hcz27_0
    try clear hcz27_1
    try clear hcz31_0
    try clear hcz31_1
    try clear hcz34_0
    try clear hcz34_1
    try clear hcz60_0
    try clear hcz60_1
    try clear hcz9_0
    try clear hcz9_1
    try clear hfz19_0
    try clear hfz19_1
    try clear hfz21_0
    try clear hfz21_1
    try clear hfz27_0
    try clear hfz27_1
    try clear hfz31_0
    try clear hfz31_1
    try clear hfz34_0
    try clear hfz34_1
    try clear hfz60_0
    try clear hfz60_1
    try clear hfz9_0
    try clear hfz9_1
    try clear p2
    obtain⟨kq,x84_51,rfl,HA,HJ51,HO_8,HO_12,HO_256001,BK238,BK255,HB⟩:=hcut
    have hl256001_51:=(Kd.R_reads' HO_256001.out).1
    rw [hl256001_51] at HO_256001
    (try simp only [hl256001_51])
    (try simp only [hl256001_51] at BK238)
    (try simp only [hl256001_51] at BK255)
    (try simp only [hl256001_51] at HO_8)
    (try simp only [hl256001_51] at HO_12)
    cases kq with
    | zero=>exact absurd HA.out (by simp [laws_FnExactHuffRead.j1])
    | succ kj51 =>
     have H:=HA.out
     clear HA
     simp only [laws_FnExactHuffRead.j1] at H
     by_cases c70:x84_51 = true
     ·subst c70
      have H1:(some false) = some r:=by rw [if_pos rfl] at H;exact H
      clear H
      have H:=H1
      clear H1
      obtain rfl:=Option.some.inj H
      go_wp2
      go_ret
      exact⟨by first|rfl|(simp [errW_none,errW_some] <;> rfl)|(simp [*,errW_none,errW_some] <;> rfl),kB HB.out⟩
     replace c70:=Bool.eq_false_iff.mpr c70
     subst c70
     have H1:((laws_markIntS.f kj51 t259 1).bind fun bt278=>((laws_heldIntS.f kj51 bt278.2 1).bind fun t280=>(if t280 < 0 then (some false) else (if t280 = bt278.1 then ((laws_toBits.f kj51 a0_0 l0_1).bind fun bt281=>((laws_toIntS.f kj51 l1).bind fun t285=>((impl_HuffRead.f kj51 bt281.1 bt281.2 t285 a2).bind fun bt288=>((laws_eqIntS.f kj51 bt288.1 t247).bind fun t292=>(if t292 = true then (laws_FnExactHuffRead.j2 kj51 bt278.2 bt278.1 (bt288.2 != t250)) else (laws_FnExactHuffRead.j2 kj51 bt278.2 bt278.1 true)))))) else (some false))))) = some r:=by rw [if_neg (show ¬ (false = true) by decide)] at H;exact H
     clear H
     have H:=H1
     clear H1
     replace H:=Option.bind_eq_some_iff.mp H
     obtain⟨⟨t278,t279⟩,A710,H⟩:=H
     replace H:((laws_heldIntS.f kj51 t279 1).bind fun t280=>(if t280 < 0 then (some false) else (if t280 = t278 then ((laws_toBits.f kj51 a0_0 l0_1).bind fun bt281=>((laws_toIntS.f kj51 l1).bind fun t285=>((impl_HuffRead.f kj51 bt281.1 bt281.2 t285 a2).bind fun bt288=>((laws_eqIntS.f kj51 bt288.1 t247).bind fun t292=>(if t292 = true then (laws_FnExactHuffRead.j2 kj51 t279 t278 (bt288.2 != t250)) else (laws_FnExactHuffRead.j2 kj51 t279 t278 true)))))) else (some false)))) = some r:=H
     have A71:=mk0 A710
     clear A710
     replace H:=Option.bind_eq_some_iff.mp H
     obtain⟨t280,A720,H⟩:=H
     replace H:(if t280 < 0 then (some false) else (if t280 = t278 then ((laws_toBits.f kj51 a0_0 l0_1).bind fun bt281=>((laws_toIntS.f kj51 l1).bind fun t285=>((impl_HuffRead.f kj51 bt281.1 bt281.2 t285 a2).bind fun bt288=>((laws_eqIntS.f kj51 bt288.1 t247).bind fun t292=>(if t292 = true then (laws_FnExactHuffRead.j2 kj51 t279 t278 (bt288.2 != t250)) else (laws_FnExactHuffRead.j2 kj51 t279 t278 true)))))) else (some false))) = some r:=H
     have A72:=mk0 A720
     clear A720
     by_cases c73:t280 < 0
     ·rw [if_pos c73] at H
      have c73b0:decide (t280 < 0) = true:=decide_eq_true c73
      clear c73
      obtain rfl:=Option.some.inj H
      obtain⟨Ao74,co74,eo74⟩:=Kd.R_slice HO_12.out
      subst eo74
      go_wp2_with (first|((with_reducible refine gate_callee (f:=17) rfl ?_);refine goesL_ (some 87) rfl rfl Try.func17 (by kernel_rfl) rfl #[.slice Ao74 t259.length co74,.int .i64 1] rfl (by (try simp only [mA,mC,mN]);first|done|rfl|(simp only [List.length_drop,List.length_take];done)|(simp only [List.length_drop,List.length_take];rfl)) ?_;(with_reducible refine (laws_markIntS.calls kj51 (fun k_=>some k_ = (.slice Ao74 t259.length co74:Value).ownBlock) (.slice Ao74 t259.length co74) t259 1 t278 t279 w _ ?side1 ?side2 A71.out).mono ?_);(case side1=>repeat (first|(with_reducible first|exact HB.out|apply aZ|apply nZ|apply dZ|refine sZ ?_ GE238.out|refine sZ ?_ GE255.out)|exact HB.out));(case side2=>exact Kd.R_tight rfl HO_12.out);rintro e w75 ⟨rfl,hy0,hb,hkp⟩;refine⟨_,rfl,?_⟩;replace HO_8:=mk0 (Kd.R_mono (ok':=fun k_=>some k_ ≠ (.slice Ao74 t259.length co74:Value).ownBlock) (Kd.R_keptB (HO_8.out) hkp (fun k_ hk_ hs_=>(hk_) hs_)) (fun k_ hk_=>hk_.1));replace HO_256001:=mk0 (Kd.R_mono (ok':=fun k_=>True) (Kd.R_keptB ((Kd.R_apart' HO_256001.out (Kd.R_typed HO_12.out) (by decide))) hkp (by first|exact fun k_ hk_ hs_=>(hk_.2) hs_|(intro k_ hk_ hs_;exact absurd hs_ (by simp only [hk_,ne_eq,or_self,not_false_eq_true])))) (fun k_ hk_=>trivial));replace BK238:=mk0 (blk_kept (kN BK238.out) hkp (fun hs_=>(fun e_=>(Kd.R_ne HO_12.out BK238.out (by decide)) e_) hs_));replace BK255:=mk0 (blk_kept (kN BK255.out) hkp (fun hs_=>(fun e_=>(Kd.R_ne HO_12.out BK255.out (by decide)) e_) hs_));replace HO_12:=mk0 (Kd.R_reok rfl hy0 (fun k_ e_=>HO_12.out.1 k_ e_));replace HB:=mk0 (hb);(try clear hb);(try clear hkp);(try clear hy0))|((with_reducible refine gate_callee (f:=31) rfl ?_);refine goesL_ (some 90) rfl rfl Try.func31 (by kernel_rfl) rfl #[.slice Ao74 t279.length co74,.int .i64 1] rfl (by (try simp only [mA,mC,mN]);first|done|(rw [show t279.length = t259.length from (Kd.R_reads' HO_12.out).1.symm] <;> rfl)|rfl|(simp only [List.length_drop,List.length_take];done)|(simp only [List.length_drop,List.length_take];rfl)) ?_;(with_reducible refine (laws_heldIntS.calls kj51 _ _ t279 1 t280 _ ?side1 ?side2 A72.out).mono ?_);(case side1=>exact kC (Kd.R_reads' HO_12.out).2.2);(case side2=>rw [show t279.length = t259.length from (Kd.R_reads' HO_12.out).1.symm];exact (Kd.R_reads' HO_12.out).2.1);rintro e w' ⟨rfl,⟨nd,rfl⟩⟩;refine⟨_,rfl,?_⟩))
      go_ret
      exact⟨by first|rfl|(simp [errW_none,errW_some] <;> rfl)|(simp [*,errW_none,errW_some] <;> rfl),kB HB.out⟩
     rw [if_neg c73] at H
     have c73b0:decide (t280 < 0) = false:=decide_eq_false c73
     clear c73
     by_cases c76:t280 = t278
     rotate_left
     ·rw [if_neg c76] at H
      have c76b0:(t280 == t278) = false:=beq_eq_false_iff_ne.mpr c76
      have c76b1:(t280 != t278) = true:=bne_iff_ne.mpr c76
      obtain rfl:=Option.some.inj H
      obtain⟨Ao100,co100,eo100⟩:=Kd.R_slice HO_12.out
      subst eo100
      go_wp2_with (first|((with_reducible refine gate_callee (f:=17) rfl ?_);refine goesL_ (some 87) rfl rfl Try.func17 (by kernel_rfl) rfl #[.slice Ao100 t259.length co100,.int .i64 1] rfl (by (try simp only [mA,mC,mN]);first|done|rfl|(simp only [List.length_drop,List.length_take];done)|(simp only [List.length_drop,List.length_take];rfl)) ?_;(with_reducible refine (laws_markIntS.calls kj51 (fun k_=>some k_ = (.slice Ao100 t259.length co100:Value).ownBlock) (.slice Ao100 t259.length co100) t259 1 t278 t279 w _ ?side1 ?side2 A71.out).mono ?_);(case side1=>repeat (first|(with_reducible first|exact HB.out|apply aZ|apply nZ|apply dZ|refine sZ ?_ GE238.out|refine sZ ?_ GE255.out)|exact HB.out));(case side2=>exact Kd.R_tight rfl HO_12.out);rintro e w101 ⟨rfl,hy0,hb,hkp⟩;refine⟨_,rfl,?_⟩;replace HO_8:=mk0 (Kd.R_mono (ok':=fun k_=>some k_ ≠ (.slice Ao100 t259.length co100:Value).ownBlock) (Kd.R_keptB (HO_8.out) hkp (fun k_ hk_ hs_=>(hk_) hs_)) (fun k_ hk_=>hk_.1));replace HO_256001:=mk0 (Kd.R_mono (ok':=fun k_=>True) (Kd.R_keptB ((Kd.R_apart' HO_256001.out (Kd.R_typed HO_12.out) (by decide))) hkp (by first|exact fun k_ hk_ hs_=>(hk_.2) hs_|(intro k_ hk_ hs_;exact absurd hs_ (by simp only [hk_,ne_eq,or_self,not_false_eq_true])))) (fun k_ hk_=>trivial));replace BK238:=mk0 (blk_kept (kN BK238.out) hkp (fun hs_=>(fun e_=>(Kd.R_ne HO_12.out BK238.out (by decide)) e_) hs_));replace BK255:=mk0 (blk_kept (kN BK255.out) hkp (fun hs_=>(fun e_=>(Kd.R_ne HO_12.out BK255.out (by decide)) e_) hs_));replace HO_12:=mk0 (Kd.R_reok rfl hy0 (fun k_ e_=>HO_12.out.1 k_ e_));replace HB:=mk0 (hb);(try clear hb);(try clear hkp);(try clear hy0))|((with_reducible refine gate_callee (f:=31) rfl ?_);refine goesL_ (some 90) rfl rfl Try.func31 (by kernel_rfl) rfl #[.slice Ao100 t279.length co100,.int .i64 1] rfl (by (try simp only [mA,mC,mN]);first|done|(rw [show t279.length = t259.length from (Kd.R_reads' HO_12.out).1.symm] <;> rfl)|rfl|(simp only [List.length_drop,List.length_take];done)|(simp only [List.length_drop,List.length_take];rfl)) ?_;(with_reducible refine (laws_heldIntS.calls kj51 _ _ t279 1 t280 _ ?side1 ?side2 A72.out).mono ?_);(case side1=>exact kC (Kd.R_reads' HO_12.out).2.2);(case side2=>rw [show t279.length = t259.length from (Kd.R_reads' HO_12.out).1.symm];exact (Kd.R_reads' HO_12.out).2.1);rintro e w' ⟨rfl,⟨nd,rfl⟩⟩;refine⟨_,rfl,?_⟩))
      go_ret
      exact⟨by first|rfl|(simp [errW_none,errW_some] <;> rfl)|(simp [*,errW_none,errW_some] <;> rfl),kB HB.out⟩
     rw [if_pos c76] at H
     have c76b0:(t280 == t278) = true:=beq_iff_eq.mpr c76
     have c76b1:(t280 != t278) = false:=bne_eq_false_iff_eq.mpr c76
     clear c76
     replace H:=Option.bind_eq_some_iff.mp H
     obtain⟨⟨t281,t282⟩,A770,H⟩:=H
     replace H:((laws_toIntS.f kj51 l1).bind fun t285=>((impl_HuffRead.f kj51 t281 t282 t285 a2).bind fun bt288=>((laws_eqIntS.f kj51 bt288.1 t247).bind fun t292=>(if t292 = true then (laws_FnExactHuffRead.j2 kj51 t279 t278 (bt288.2 != t250)) else (laws_FnExactHuffRead.j2 kj51 t279 t278 true))))) = some r:=H
     have A77:=mk0 A770
     clear A770
     replace H:=Option.bind_eq_some_iff.mp H
     obtain⟨t285,A780,H⟩:=H
     replace H:((impl_HuffRead.f kj51 t281 t282 t285 a2).bind fun bt288=>((laws_eqIntS.f kj51 bt288.1 t247).bind fun t292=>(if t292 = true then (laws_FnExactHuffRead.j2 kj51 t279 t278 (bt288.2 != t250)) else (laws_FnExactHuffRead.j2 kj51 t279 t278 true)))) = some r:=H
     have A78:=mk0 A780
     clear A780
     replace H:=Option.bind_eq_some_iff.mp H
     obtain⟨⟨t288,t291⟩,A790,H⟩:=H
     replace H:((laws_eqIntS.f kj51 t288 t247).bind fun t292=>(if t292 = true then (laws_FnExactHuffRead.j2 kj51 t279 t278 (t291 != t250)) else (laws_FnExactHuffRead.j2 kj51 t279 t278 true))) = some r:=H
     have A79:=mk0 A790
     clear A790
     have HC80:=mk0 H
     clear H
     obtain⟨Ao81,co81,eo81⟩:=Kd.R_slice HO_12.out
     subst eo81
     go_upto_region 31 with (first|((with_reducible refine gate_callee (f:=17) rfl ?_);refine goesL_ (some 87) rfl rfl Try.func17 (by kernel_rfl) rfl #[.slice Ao81 t259.length co81,.int .i64 1] rfl (by (try simp only [mA,mC,mN]);first|done|rfl|(simp only [List.length_drop,List.length_take];done)|(simp only [List.length_drop,List.length_take];rfl)) ?_;(with_reducible refine (laws_markIntS.calls kj51 (fun k_=>some k_ = (.slice Ao81 t259.length co81:Value).ownBlock) (.slice Ao81 t259.length co81) t259 1 t278 t279 w _ ?side1 ?side2 A71.out).mono ?_);(case side1=>repeat (first|(with_reducible first|exact HB.out|apply aZ|apply nZ|apply dZ|refine sZ ?_ GE238.out|refine sZ ?_ GE255.out)|exact HB.out));(case side2=>exact Kd.R_tight rfl HO_12.out);rintro e w82 ⟨rfl,hy0,hb,hkp⟩;refine⟨_,rfl,?_⟩;replace HO_8:=mk0 (Kd.R_mono (ok':=fun k_=>some k_ ≠ (.slice Ao81 t259.length co81:Value).ownBlock) (Kd.R_keptB (HO_8.out) hkp (fun k_ hk_ hs_=>(hk_) hs_)) (fun k_ hk_=>hk_.1));replace HO_256001:=mk0 (Kd.R_mono (ok':=fun k_=>True) (Kd.R_keptB ((Kd.R_apart' HO_256001.out (Kd.R_typed HO_12.out) (by decide))) hkp (by first|exact fun k_ hk_ hs_=>(hk_.2) hs_|(intro k_ hk_ hs_;exact absurd hs_ (by simp only [hk_,ne_eq,or_self,not_false_eq_true])))) (fun k_ hk_=>trivial));replace BK238:=mk0 (blk_kept (kN BK238.out) hkp (fun hs_=>(fun e_=>(Kd.R_ne HO_12.out BK238.out (by decide)) e_) hs_));replace BK255:=mk0 (blk_kept (kN BK255.out) hkp (fun hs_=>(fun e_=>(Kd.R_ne HO_12.out BK255.out (by decide)) e_) hs_));replace HO_12:=mk0 (Kd.R_reok rfl hy0 (fun k_ e_=>HO_12.out.1 k_ e_));replace HB:=mk0 (hb);(try clear hb);(try clear hkp);(try clear hy0))|((with_reducible refine gate_callee (f:=31) rfl ?_);refine goesL_ (some 90) rfl rfl Try.func31 (by kernel_rfl) rfl #[.slice Ao81 t279.length co81,.int .i64 1] rfl (by (try simp only [mA,mC,mN]);first|done|(rw [show t279.length = t259.length from (Kd.R_reads' HO_12.out).1.symm] <;> rfl)|rfl|(simp only [List.length_drop,List.length_take];done)|(simp only [List.length_drop,List.length_take];rfl)) ?_;(with_reducible refine (laws_heldIntS.calls kj51 _ _ t279 1 t280 _ ?side1 ?side2 A72.out).mono ?_);(case side1=>exact kC (Kd.R_reads' HO_12.out).2.2);(case side2=>rw [show t279.length = t259.length from (Kd.R_reads' HO_12.out).1.symm];exact (Kd.R_reads' HO_12.out).2.1);rintro e w' ⟨rfl,⟨nd,rfl⟩⟩;refine⟨_,rfl,?_⟩;have hnb83:=NB238_255.out;have hnc83:=NB255_238.out;obtain⟨hcz84_0,hcz84_1,hfz84_0,hfz84_1⟩:=cz2 BK238.out)|((with_reducible refine gate_callee (f:=29) rfl ?_);refine goesL_ (some 98) rfl rfl Try.func29 (by kernel_rfl) rfl #[.agg #[.int .i64 a0_0,.slice A0_1 l0_1.length c0_1]] rfl (by (try simp only [mA,mC,mN]);first|done|rfl|(simp only [List.length_drop,List.length_take];done)|(simp only [List.length_drop,List.length_take];rfl)) ?_;(with_reducible refine (laws_toBits.calls kj51 a0_0 _ _ l0_1 t281 t282 _ ?side1 ?side2 A77.out).mono ?_);(case side1=>repeat (first|exact (Kd.C_below HR0_1.out (kB HB.out))|(with_reducible first|apply aC|apply nC|apply dC)));(case side2=>exact HC0_1.out);rintro e w85 ⟨v283,rfl,ho0,hb⟩;refine⟨_,rfl,?_⟩;replace HO_8:=mk0 (bR HO_8.out hb);replace HO_12:=mk0 (bR HO_12.out hb);have HO284:=mk0 (Kd.R_lower (Kd.R_new' ho0 (Kd.R_lt (rR HO_256001.out))) (kZ HB.out));replace HO_256001:=mk0 (Kd.R_elder' (rR HO_256001.out) (Kd.R_base ho0) hb);replace BK238:=mk0 (kK BK238.out hb);replace BK255:=mk0 (kK BK255.out hb);replace HB:=mk0 (kS HB.out hb);(try clear hb);(try clear ho0))|((with_reducible refine gate_callee (f:=13) rfl ?_);refine goesL_ (some 100) rfl rfl Try.func13 (by kernel_rfl) rfl #[.slice A1 l1.length c1] rfl (by (try simp only [mA,mC,mN]);first|done|rfl|(simp only [List.length_drop,List.length_take];done)|(simp only [List.length_drop,List.length_take];rfl)) ?_;(with_reducible refine (laws_toIntS.calls kj51 _ _ l1 t285 _ ?side1 ?side2 A78.out).mono ?_);(case side1=>exact kC (Kd.C_below HR1.out HB.out));(case side2=>exact HC1.out);rintro e w86 ⟨v286,rfl,ho0,hb⟩;refine⟨_,rfl,?_⟩;replace HO_256001:=mk0 (bR HO_256001.out hb);replace HO284:=mk0 (bR HO284.out hb);have HO287:=mk0 (Kd.R_lower (Kd.R_new' (Kd.R_new' ho0 (Kd.R_lt (rR HO_8.out))) (Kd.R_lt (rR HO_12.out))) (kZ HB.out));replace HO_8:=mk0 (Kd.R_elder' (rR HO_8.out) (Kd.R_base ho0) hb);replace HO_12:=mk0 (Kd.R_elder' (rR HO_12.out) (Kd.R_base ho0) hb);replace BK238:=mk0 (kK BK238.out hb);replace BK255:=mk0 (kK BK255.out hb);replace HB:=mk0 (kS HB.out hb);(try clear hb);(try clear ho0);obtain⟨Ao87,co87,eo87⟩:=Kd.R_slice HO284.out;subst eo87;obtain⟨Ao88,co88,eo88⟩:=Kd.R_slice HO287.out;subst eo88)|((with_reducible refine gate_callee (f:=30) rfl ?_);refine goesL_ (some 102) rfl rfl Try.func30 (by kernel_rfl) rfl #[.agg #[.int .i64 t281,.slice Ao87 t282.length co87],.slice Ao88 t285.length co88,.int .i64 a2] rfl (by (try simp only [mA,mC,mN]);first|done|rfl|(simp only [List.length_drop,List.length_take];done)|(simp only [List.length_drop,List.length_take];rfl)) ?_;(with_reducible refine (impl_HuffRead.calls kj51 t281 _ _ t282 _ _ t285 a2 t288 t291 _ ?side1 ?side2 ?side3 ?side4 A79.out).mono ?_);(case side1=>exact kC (Kd.R_reads' HO284.out).2.2);(case side2=>exact (Kd.R_reads' HO284.out).2.1);(case side3=>exact kC (Kd.R_reads' HO287.out).2.2);(case side4=>exact (Kd.R_reads' HO287.out).2.1);rintro e w89 ⟨v289,rfl,ho0,hb⟩;refine⟨_,rfl,?_⟩;replace HO_256001:=mk0 (bR HO_256001.out hb);replace HO284:=mk0 (bR HO284.out hb);have HO290:=mk0 (Kd.R_lower (Kd.R_new' (Kd.R_new' (Kd.R_new' ho0 (Kd.R_lt (rR HO_8.out))) (Kd.R_lt (rR HO_12.out))) (Kd.R_lt (rR HO287.out))) (kZ HB.out));replace HO_8:=mk0 (Kd.R_elder' (rR HO_8.out) (Kd.R_base ho0) hb);replace HO_12:=mk0 (Kd.R_elder' (rR HO_12.out) (Kd.R_base ho0) hb);replace HO287:=mk0 (Kd.R_elder' (rR HO287.out) (Kd.R_base ho0) hb);replace BK238:=mk0 (kK BK238.out hb);replace BK255:=mk0 (kK BK255.out hb);replace HB:=mk0 (kS HB.out hb);(try clear hb);(try clear ho0)))
     (try simp only [Act.put,sA,sO,sS])
     go_cut [113] (fun v113 wc=>∃ (kq:Nat) (x113_79:Bool),v113 = .bool x113_79 ∧ Aside0 (laws_FnExactHuffRead.j2 kq t279 t278 x113_79 = some r) ∧ Aside0 (kq ≤ kj51) ∧ Aside0 (Kd.R (Kd.int .i64) 3 wc w.heap.size (fun _=>True) (.slice Ao81 t259.length co81) t279) ∧ Aside0 (Kd.R (Kd.int .u64) 82 wc w.heap.size (fun _=>True) (.slice Ao32 t274.length co32) t274) ∧ Aside0 (wc.heap[gb238]? = some (.cells #[.int .i64 a0_0,(.slice A0_1 l0_1.length c0_1)] 41 (0,0))) ∧ Aside0 (wc.heap[gb255]? = some (.cells #[.int .i64 t251,(.slice Ao32 t274.length co32)] 30 (0,0))) ∧ Aside0 (Below w.heap.size w wc))
     case first =>
      have H:=HC80.out
      clear HC80
      replace H:=Option.bind_eq_some_iff.mp H
      obtain⟨t292,A900,H⟩:=H
      replace H:(if t292 = true then (laws_FnExactHuffRead.j2 kj51 t279 t278 (t291 != t250)) else (laws_FnExactHuffRead.j2 kj51 t279 t278 true)) = some r:=H
      have A90:=mk0 A900
      clear A900
      by_cases c91:t292 = true
      ·subst c91
       have H1:(laws_FnExactHuffRead.j2 kj51 t279 t278 (t291 != t250)) = some r:=by rw [if_pos rfl] at H;exact H
       clear H
       have H:=H1
       clear H1
       have H':=mk0 H
       clear H
       obtain⟨Ao92,co92,eo92⟩:=Kd.R_slice HO290.out
       subst eo92
       obtain⟨Ao93,co93,eo93⟩:=Kd.R_slice HO_8.out
       subst eo93
       go_wp2_with (first|((with_reducible refine gate_callee (f:=16) rfl ?_);refine goesL_ (some 107) rfl rfl Try.func16 (by kernel_rfl) rfl #[.slice Ao92 t288.length co92,.slice Ao93 t247.length co93] rfl (by (try simp only [mA,mC,mN]);first|done|rfl|(simp only [List.length_drop,List.length_take];done)|(simp only [List.length_drop,List.length_take];rfl)) ?_;(with_reducible refine (laws_eqIntS.calls kj51 _ _ t288 _ _ t247 true _ ?side1 ?side2 ?side3 ?side4 A90.out).mono ?_);(case side1=>exact kC (Kd.R_reads' HO290.out).2.2);(case side2=>exact (Kd.R_reads' HO290.out).2.1);(case side3=>exact kC (Kd.R_reads' HO_8.out).2.2);(case side4=>exact (Kd.R_reads' HO_8.out).2.1);rintro e w' ⟨rfl,⟨nd,rfl⟩⟩;refine⟨_,rfl,?_⟩))
       go_meet
       case rel=>exact⟨_,((t291 != t250)),(by first|rfl|(simp;done)|(simp [*];done)),H',⟨by have:=HJ16.out;have:=HJ51.out;first|omega|exact Nat.le_refl _⟩,⟨by (try simp only [hl256001_51]);(with_reducible repeat (first|apply aR|apply nR|apply dR));exact Kd.R_mono HO_12.out (fun _ hk=>trivial)⟩,⟨by (try simp only [hl256001_51]);(with_reducible repeat (first|apply aR|apply nR|apply dR));exact Kd.R_mono HO_256001.out (fun _ hk=>trivial)⟩,⟨by (try simp only [hl256001_51]);(with_reducible repeat (first|apply nB|apply dB|apply aB));exact BK238.out⟩,⟨by (try simp only [hl256001_51]);(with_reducible repeat (first|apply nB|apply dB|apply aB));exact BK255.out⟩,⟨kB HB.out⟩⟩
      replace c91:=Bool.eq_false_iff.mpr c91
      subst c91
      have H1:(laws_FnExactHuffRead.j2 kj51 t279 t278 true) = some r:=by rw [if_neg (show ¬ (false = true) by decide)] at H;exact H
      clear H
      have H:=H1
      clear H1
      have H':=mk0 H
      clear H
      obtain⟨Ao94,co94,eo94⟩:=Kd.R_slice HO290.out
      subst eo94
      obtain⟨Ao95,co95,eo95⟩:=Kd.R_slice HO_8.out
      subst eo95
      go_wp2_with (first|((with_reducible refine gate_callee (f:=16) rfl ?_);refine goesL_ (some 107) rfl rfl Try.func16 (by kernel_rfl) rfl #[.slice Ao94 t288.length co94,.slice Ao95 t247.length co95] rfl (by (try simp only [mA,mC,mN]);first|done|rfl|(simp only [List.length_drop,List.length_take];done)|(simp only [List.length_drop,List.length_take];rfl)) ?_;(with_reducible refine (laws_eqIntS.calls kj51 _ _ t288 _ _ t247 false _ ?side1 ?side2 ?side3 ?side4 A90.out).mono ?_);(case side1=>exact kC (Kd.R_reads' HO290.out).2.2);(case side2=>exact (Kd.R_reads' HO290.out).2.1);(case side3=>exact kC (Kd.R_reads' HO_8.out).2.2);(case side4=>exact (Kd.R_reads' HO_8.out).2.1);rintro e w' ⟨rfl,⟨nd,rfl⟩⟩;refine⟨_,rfl,?_⟩))
      go_meet
      case rel=>exact⟨_,(true),(by first|rfl|(simp;done)|(simp [*];done)),H',⟨by have:=HJ16.out;have:=HJ51.out;first|omega|exact Nat.le_refl _⟩,⟨by (try simp only [hl256001_51]);(with_reducible repeat (first|apply aR|apply nR|apply dR));exact Kd.R_mono HO_12.out (fun _ hk=>trivial)⟩,⟨by (try simp only [hl256001_51]);(with_reducible repeat (first|apply aR|apply nR|apply dR));exact Kd.R_mono HO_256001.out (fun _ hk=>trivial)⟩,⟨by (try simp only [hl256001_51]);(with_reducible repeat (first|apply nB|apply dB|apply aB));exact BK238.out⟩,⟨by (try simp only [hl256001_51]);(with_reducible repeat (first|apply nB|apply dB|apply aB));exact BK255.out⟩,⟨kB HB.out⟩⟩
     case rest =>
      clear HC80
      try clear c1
      try clear c2
      try clear p2
      try clear c3
      try clear c4
      try clear c4b0
      try clear c4b1
      try clear c5
      try clear c6
      try clear c7
      try clear c7b0
      try clear c8
      try clear c9
      try clear c13
      try clear c15
      try clear c16
      try clear c17
      try clear c18
      try clear c27
      try clear c28
      try clear c29
      try clear c30
      try clear c31
      try clear c38
      try clear c43
      try clear c46
      try clear c49
      try clear c59
      try clear c63
      try clear c63b0
      try clear c65
      try clear c70
      try clear c73
      try clear c73b0
      try clear c76
      try clear c76b0
      try clear c76b1
      try clear c83
      try clear c91
      try clear hcz19_0
      try clear hcz19_1
      try clear hcz21_0
      try clear hcz21_1
      try clear hcz27_0
      try clear hcz27_1
      try clear hcz31_0
      try clear hcz31_1
      try clear hcz34_0
      try clear hcz34_1
      try clear hcz60_0
      try clear hcz60_1
      try clear hcz84_0
      try clear hcz84_1
      try clear hcz9_0
      try clear hcz9_1
      try clear hfz19_0
      try clear hfz19_1
      try clear hfz21_0
      try clear hfz21_1
      try clear hfz27_0
      try clear hfz27_1
      try clear hfz31_0
      try clear hfz31_1
      try clear hfz34_0
      try clear hfz34_1
      try clear hfz60_0
      try clear hfz60_1
      try clear hfz84_0
      try clear hfz84_1
      try clear hfz9_0
      try clear hfz9_1
      try clear p2
      obtain⟨kq,x113_79,rfl,HA,HJ79,HO_12,HO_256001,BK238,BK255,HB⟩:=hcut
      have hl12_79:=(Kd.R_reads' HO_12.out).1
      rw [hl12_79] at HO_12
      (try simp only [hl12_79])
      (try simp only [hl12_79] at BK238)
      (try simp only [hl12_79] at BK255)
      (try simp only [hl12_79] at HO_256001)
      cases kq with
      | zero=>exact absurd HA.out (by simp [laws_FnExactHuffRead.j2])
      | succ kj79 =>
       have H:=HA.out
       clear HA
       simp only [laws_FnExactHuffRead.j2] at H
       by_cases c96:x113_79 = true
       ·subst c96
        have H1:(some false) = some r:=by rw [if_pos rfl] at H;exact H
        clear H
        have H:=H1
        clear H1
        obtain rfl:=Option.some.inj H
        go_wp2
        go_ret
        exact⟨by first|rfl|(simp [errW_none,errW_some] <;> rfl)|(simp [*,errW_none,errW_some] <;> rfl),kB HB.out⟩
       replace c96:=Bool.eq_false_iff.mpr c96
       subst c96
       have H1:((laws_heldIntS.f kj79 t279 1).bind fun t293=>(if t293 < 0 then (some false) else (if t293 = t278 then (some true) else (some false)))) = some r:=by rw [if_neg (show ¬ (false = true) by decide)] at H;exact H
       clear H
       have H:=H1
       clear H1
       replace H:=Option.bind_eq_some_iff.mp H
       obtain⟨t293,A970,H⟩:=H
       replace H:(if t293 < 0 then (some false) else (if t293 = t278 then (some true) else (some false))) = some r:=H
       have A97:=mk0 A970
       clear A970
       by_cases c98:t293 < 0
       ·rw [if_pos c98] at H
        have c98b0:decide (t293 < 0) = true:=decide_eq_true c98
        clear c98
        obtain rfl:=Option.some.inj H
        go_wp2_with (first|((with_reducible refine gate_callee (f:=31) rfl ?_);refine goesL_ (some 116) rfl rfl Try.func31 (by kernel_rfl) rfl #[.slice Ao81 t279.length co81,.int .i64 1] rfl (by (try simp only [mA,mC,mN]);first|done|rfl|(simp only [List.length_drop,List.length_take];done)|(simp only [List.length_drop,List.length_take];rfl)) ?_;(with_reducible refine (laws_heldIntS.calls kj79 _ _ t279 1 t293 _ ?side1 ?side2 A97.out).mono ?_);(case side1=>exact kC (Kd.R_reads' HO_12.out).2.2);(case side2=>exact (Kd.R_reads' HO_12.out).2.1);rintro e w' ⟨rfl,⟨nd,rfl⟩⟩;refine⟨_,rfl,?_⟩))
        go_ret
        exact⟨by first|rfl|(simp [errW_none,errW_some] <;> rfl)|(simp [*,errW_none,errW_some] <;> rfl),kB HB.out⟩
       rw [if_neg c98] at H
       have c98b0:decide (t293 < 0) = false:=decide_eq_false c98
       clear c98
       by_cases c99:t293 = t278
       rotate_left
       ·rw [if_neg c99] at H
        have c99b0:(t293 == t278) = false:=beq_eq_false_iff_ne.mpr c99
        have c99b1:(t293 != t278) = true:=bne_iff_ne.mpr c99
        obtain rfl:=Option.some.inj H
        go_wp2_with (first|((with_reducible refine gate_callee (f:=31) rfl ?_);refine goesL_ (some 116) rfl rfl Try.func31 (by kernel_rfl) rfl #[.slice Ao81 t279.length co81,.int .i64 1] rfl (by (try simp only [mA,mC,mN]);first|done|rfl|(simp only [List.length_drop,List.length_take];done)|(simp only [List.length_drop,List.length_take];rfl)) ?_;(with_reducible refine (laws_heldIntS.calls kj79 _ _ t279 1 t293 _ ?side1 ?side2 A97.out).mono ?_);(case side1=>exact kC (Kd.R_reads' HO_12.out).2.2);(case side2=>exact (Kd.R_reads' HO_12.out).2.1);rintro e w' ⟨rfl,⟨nd,rfl⟩⟩;refine⟨_,rfl,?_⟩))
        go_ret
        exact⟨by first|rfl|(simp [errW_none,errW_some] <;> rfl)|(simp [*,errW_none,errW_some] <;> rfl),kB HB.out⟩
       rw [if_pos c99] at H
       have c99b0:(t293 == t278) = true:=beq_iff_eq.mpr c99
       have c99b1:(t293 != t278) = false:=bne_eq_false_iff_eq.mpr c99
       clear c99
       obtain rfl:=Option.some.inj H
       go_wp2_with (first|((with_reducible refine gate_callee (f:=31) rfl ?_);refine goesL_ (some 116) rfl rfl Try.func31 (by kernel_rfl) rfl #[.slice Ao81 t279.length co81,.int .i64 1] rfl (by (try simp only [mA,mC,mN]);first|done|rfl|(simp only [List.length_drop,List.length_take];done)|(simp only [List.length_drop,List.length_take];rfl)) ?_;(with_reducible refine (laws_heldIntS.calls kj79 _ _ t279 1 t293 _ ?side1 ?side2 A97.out).mono ?_);(case side1=>exact kC (Kd.R_reads' HO_12.out).2.2);(case side2=>exact (Kd.R_reads' HO_12.out).2.1);rintro e w' ⟨rfl,⟨nd,rfl⟩⟩;refine⟨_,rfl,?_⟩))
       go_ret
       exact⟨by first|rfl|(simp [errW_none,errW_some] <;> rfl)|(simp [*,errW_none,errW_some] <;> rfl),kB HB.out⟩
/-- The plain statement of laws_FnExactHuffRead. -/
def laws_FnExactHuffRead.Pure : Prop := ∀ (a0_0 : Int) (l0_1 : List Int) (l1 : List Int) (a2 : Int), ok41 ((⟨a0_0, l0_1⟩ : S41)) → (Fv.OkL (Fv.OkI .i64)) l1 → (Fv.OkI .i64) a2 → ∃ k, laws_FnExactHuffRead.f k a0_0 l0_1 l1 a2 = some true

end Go.Proofs.Ytgjmmegmkdklbaa.QFnExactHuffRead
