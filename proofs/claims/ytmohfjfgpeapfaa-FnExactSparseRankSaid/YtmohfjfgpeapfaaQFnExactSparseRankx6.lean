-- A walk, made by walk.py, a program of this session's.
import Derived.Test.YtmohfjfgpeapfaaQFnExactSparseRankx0
import Derived.Test.YtmohfjfgpeapfaaQFnExactSparseRankx5
namespace Go.Proofs.Ytmohfjfgpeapfaa.QFnExactSparseRank
open Go.RowKit Go.Proofs.YtmohfjfgpeapfaaW.PrintWords Go.Proofs.YtmohfjfgpeapfaaW.PrintLast Go.Proofs.YtmohfjfgpeapfaaW.PrintMore
attribute [local go_sem] max2_int min2_int max_two min_two max_three min_three max_four min_four   -- for this text's walks alone
set_option linter.unusedVariables false
set_option linter.unusedSimpArgs false

/-! ### laws_szPacked: function 41 -/
def laws_szPacked.f (a0_0 : Int) (a0_1 : Int) (a0_2 : Int) (l0_3 : List Int) (a1 : Int) : Option (Int) := (laws_szBits.f a0_2 l0_3 a1).bind fun t257 => (if t257 < 0 then (some (-1)) else (some t257))
set_option maxHeartbeats 8000000 in
set_option maxRecDepth 100000 in
theorem laws_szPacked.calls (a0_0 : Int) (a0_1 : Int) (a0_2 : Int) (A0_3 : Option Addr) (c0_3 : Nat) (l0_3 : List Int) (a1 : Int) (r : Int) (w : World) (hr0_3 : Kd.C (Kd.int .u64) w A0_3 l0_3.length l0_3) (hc0_3 : l0_3.length ≤ c0_3) (h : laws_szPacked.f a0_0 a0_1 a0_2 l0_3 a1 = some r) :
  Calls Try.prog 41 #[.agg #[.int .i64 a0_0, .int .i64 a0_1, .int .i64 a0_2, .slice A0_3 l0_3.length c0_3], .int .i64 a1] w fun e w' => e = .returned (.int .i64 r) ∧ Below w.heap.size w w' := by
 have hu43:=Try.underlying43
 have hu41:=Try.underlying41
 have HR0_3:=mk0 hr0_3
 have HC0_3:=mk0 hc0_3
 clear hr0_3 hc0_3
 have HB:=mk0 (Below.refl w.heap.size w)
 have H:((laws_szBits.f a0_2 l0_3 a1).bind fun t257=>(if t257 < 0 then (some (-1)) else (some t257))) = some r:=h
 clear h
 replace H:=Option.bind_eq_some_iff.mp H
 obtain⟨t257,A30,H⟩:=H
 replace H:(if t257 < 0 then (some (-1)) else (some t257)) = some r:=H
 have A3:=mk0 A30
 clear A30
 by_cases c4:t257 < 0
 ·rw [if_pos c4] at H
  have c4b0:decide (t257 < 0) = true:=decide_eq_true c4
  clear c4
  obtain rfl:=Option.some.inj H
  go_enter Try.func41,Try.ntmps41
  go_wp2_with (first|((with_reducible refine gate_dst (N:=2) rfl ?_);refine box_event ?hg (N:=2) ?hd (cs:=#[.int .i64 a0_0,.int .i64 a0_1,.int .i64 a0_2,.slice A0_3 l0_3.length c0_3]) (t:=43) ?hr ?_;(case hd=>rfl);(case hg=>rfl);(case hr=>first|(go_simp;done)|(go_simp;rfl));intro gb256 hg w5 hbox hb;have BK256:=mk0 (hbox);have GW256:=mk0 ((by rw [hg];exact (kZ HB.out):w.heap.size ≤ gb256));have GE256:=mk0 ((by rw [hg];exact (kZ HB.out):w.heap.size ≤ gb256));replace HB:=mk0 (kS HB.out hb);clear hb hbox hg;obtain⟨hcz6_0,hcz6_1,hcz6_2,hcz6_3,hfz6_0,hfz6_1,hfz6_2,hfz6_3⟩:=cz4 BK256.out)|((with_reducible refine gate_callee (f:=42) rfl ?_);refine goesL_ (some 8) rfl rfl Try.func42 (by kernel_rfl) rfl #[.agg #[.int .i64 a0_2,.slice A0_3 l0_3.length c0_3],.int .i64 a1] rfl (by (try simp only [mA,mC,mN]);first|done|rfl|(simp only [List.length_drop,List.length_take];rfl)) ?_;(with_reducible refine (laws_szBits.calls a0_2 _ _ l0_3 a1 t257 _ ?side1 ?side2 A3.out).mono ?_);(case side1=>exact kC (Kd.C_below HR0_3.out HB.out));(case side2=>exact HC0_3.out);rintro e w7 ⟨rfl,hb⟩;refine⟨_,rfl,?_⟩;replace BK256:=mk0 (kK BK256.out hb);replace HB:=mk0 (kS HB.out hb);(try clear hb)))
  go_ret
  exact⟨by first|rfl|(simp [errW_none,errW_some] <;> rfl)|(simp [*,errW_none,errW_some] <;> rfl),kB HB.out⟩
 ·rw [if_neg c4] at H
  have c4b0:decide (t257 < 0) = false:=decide_eq_false c4
  clear c4
  obtain rfl:=Option.some.inj H
  go_enter Try.func41,Try.ntmps41
  go_wp2_with (first|((with_reducible refine gate_dst (N:=2) rfl ?_);refine box_event ?hg (N:=2) ?hd (cs:=#[.int .i64 a0_0,.int .i64 a0_1,.int .i64 a0_2,.slice A0_3 l0_3.length c0_3]) (t:=43) ?hr ?_;(case hd=>rfl);(case hg=>rfl);(case hr=>first|(go_simp;done)|(go_simp;rfl));intro gb256 hg w8 hbox hb;have BK256:=mk0 (hbox);have GW256:=mk0 ((by rw [hg];exact (kZ HB.out):w.heap.size ≤ gb256));have GE256:=mk0 ((by rw [hg];exact (kZ HB.out):w.heap.size ≤ gb256));replace HB:=mk0 (kS HB.out hb);clear hb hbox hg;obtain⟨hcz9_0,hcz9_1,hcz9_2,hcz9_3,hfz9_0,hfz9_1,hfz9_2,hfz9_3⟩:=cz4 BK256.out)|((with_reducible refine gate_callee (f:=42) rfl ?_);refine goesL_ (some 8) rfl rfl Try.func42 (by kernel_rfl) rfl #[.agg #[.int .i64 a0_2,.slice A0_3 l0_3.length c0_3],.int .i64 a1] rfl (by (try simp only [mA,mC,mN]);first|done|rfl|(simp only [List.length_drop,List.length_take];rfl)) ?_;(with_reducible refine (laws_szBits.calls a0_2 _ _ l0_3 a1 t257 _ ?side1 ?side2 A3.out).mono ?_);(case side1=>exact kC (Kd.C_below HR0_3.out HB.out));(case side2=>exact HC0_3.out);rintro e w10 ⟨rfl,hb⟩;refine⟨_,rfl,?_⟩;replace BK256:=mk0 (kK BK256.out hb);replace HB:=mk0 (kS HB.out hb);(try clear hb)))
  go_ret
  exact⟨by first|rfl|(simp [errW_none,errW_some] <;> rfl)|(simp [*,errW_none,errW_some] <;> rfl),kB HB.out⟩

/-! ### laws_szSparse: function 17 -/
def laws_szSparse.f (a0_0 : Int) (a0_1 : Int) (a0_2 : Int) (a0_3 : Int) (a0_4 : Int) (l0_5 : List Int) (a0_6 : Int) (l0_7 : List Int) (a1 : Int) : Option (Int) := (laws_szPacked.f a0_2 a0_3 a0_4 l0_5 a1).bind fun t259 => (if t259 < 0 then (some (-1)) else ((laws_szBits.f a0_6 l0_7 t259).bind fun t260 => (if t260 < 0 then (some (-1)) else (some t260))))
set_option maxHeartbeats 8000000 in
set_option maxRecDepth 100000 in
theorem laws_szSparse.calls (a0_0 : Int) (a0_1 : Int) (a0_2 : Int) (a0_3 : Int) (a0_4 : Int) (A0_5 : Option Addr) (c0_5 : Nat) (l0_5 : List Int) (a0_6 : Int) (A0_7 : Option Addr) (c0_7 : Nat) (l0_7 : List Int) (a1 : Int) (r : Int) (w : World) (hr0_5 : Kd.C (Kd.int .u64) w A0_5 l0_5.length l0_5) (hc0_5 : l0_5.length ≤ c0_5) (hr0_7 : Kd.C (Kd.int .u64) w A0_7 l0_7.length l0_7) (hc0_7 : l0_7.length ≤ c0_7) (h : laws_szSparse.f a0_0 a0_1 a0_2 a0_3 a0_4 l0_5 a0_6 l0_7 a1 = some r) :
  Calls Try.prog 17 #[.agg #[.int .i64 a0_0, .int .i64 a0_1, .int .i64 a0_2, .int .i64 a0_3, .int .i64 a0_4, .slice A0_5 l0_5.length c0_5, .int .i64 a0_6, .slice A0_7 l0_7.length c0_7], .int .i64 a1] w fun e w' => e = .returned (.int .i64 r) ∧ Below w.heap.size w w' := by
 have hu45:=Try.underlying45
 have hu43:=Try.underlying43
 have hu41:=Try.underlying41
 have HR0_5:=mk0 hr0_5
 have HC0_5:=mk0 hc0_5
 clear hr0_5 hc0_5
 have HR0_7:=mk0 hr0_7
 have HC0_7:=mk0 hc0_7
 clear hr0_7 hc0_7
 have HB:=mk0 (Below.refl w.heap.size w)
 have H:((laws_szPacked.f a0_2 a0_3 a0_4 l0_5 a1).bind fun t259=>(if t259 < 0 then (some (-1)) else ((laws_szBits.f a0_6 l0_7 t259).bind fun t260=>(if t260 < 0 then (some (-1)) else (some t260))))) = some r:=h
 clear h
 replace H:=Option.bind_eq_some_iff.mp H
 obtain⟨t259,A30,H⟩:=H
 replace H:(if t259 < 0 then (some (-1)) else ((laws_szBits.f a0_6 l0_7 t259).bind fun t260=>(if t260 < 0 then (some (-1)) else (some t260)))) = some r:=H
 have A3:=mk0 A30
 clear A30
 by_cases c4:t259 < 0
 ·rw [if_pos c4] at H
  have c4b0:decide (t259 < 0) = true:=decide_eq_true c4
  clear c4
  obtain rfl:=Option.some.inj H
  go_enter Try.func17,Try.ntmps17
  go_wp2_with (first|((with_reducible refine gate_dst (N:=2) rfl ?_);refine box_event ?hg (N:=2) ?hd (cs:=#[.int .i64 a0_0,.int .i64 a0_1,.int .i64 a0_2,.int .i64 a0_3,.int .i64 a0_4,.slice A0_5 l0_5.length c0_5,.int .i64 a0_6,.slice A0_7 l0_7.length c0_7]) (t:=45) ?hr ?_;(case hd=>rfl);(case hg=>rfl);(case hr=>first|(go_simp;done)|(go_simp;rfl));intro gb258 hg w5 hbox hb;have BK258:=mk0 (hbox);have GW258:=mk0 ((by rw [hg];exact (kZ HB.out):w.heap.size ≤ gb258));have GE258:=mk0 ((by rw [hg];exact (kZ HB.out):w.heap.size ≤ gb258));replace HB:=mk0 (kS HB.out hb);clear hb hbox hg;obtain⟨hcz6_0,hcz6_1,hcz6_2,hcz6_3,hcz6_4,hcz6_5,hcz6_6,hcz6_7,hfz6_0,hfz6_1,hfz6_2,hfz6_3,hfz6_4,hfz6_5,hfz6_6,hfz6_7⟩:=cz8 BK258.out)|((with_reducible refine gate_callee (f:=41) rfl ?_);refine goesL_ (some 8) rfl rfl Try.func41 (by kernel_rfl) rfl #[.agg #[.int .i64 a0_2,.int .i64 a0_3,.int .i64 a0_4,.slice A0_5 l0_5.length c0_5],.int .i64 a1] rfl (by (try simp only [mA,mC,mN]);first|done|rfl|(simp only [List.length_drop,List.length_take];rfl)) ?_;(with_reducible refine (laws_szPacked.calls a0_2 a0_3 a0_4 _ _ l0_5 a1 t259 _ ?side1 ?side2 A3.out).mono ?_);(case side1=>exact kC (Kd.C_below HR0_5.out HB.out));(case side2=>exact HC0_5.out);rintro e w7 ⟨rfl,hb⟩;refine⟨_,rfl,?_⟩;replace BK258:=mk0 (kK BK258.out hb);replace HB:=mk0 (kS HB.out hb);(try clear hb)))
  go_ret
  exact⟨by first|rfl|(simp [errW_none,errW_some] <;> rfl)|(simp [*,errW_none,errW_some] <;> rfl),kB HB.out⟩
 rw [if_neg c4] at H
 have c4b0:decide (t259 < 0) = false:=decide_eq_false c4
 clear c4
 replace H:=Option.bind_eq_some_iff.mp H
 obtain⟨t260,A80,H⟩:=H
 replace H:(if t260 < 0 then (some (-1)) else (some t260)) = some r:=H
 have A8:=mk0 A80
 clear A80
 by_cases c9:t260 < 0
 ·rw [if_pos c9] at H
  have c9b0:decide (t260 < 0) = true:=decide_eq_true c9
  clear c9
  obtain rfl:=Option.some.inj H
  go_enter Try.func17,Try.ntmps17
  go_wp2_with (first|((with_reducible refine gate_dst (N:=2) rfl ?_);refine box_event ?hg (N:=2) ?hd (cs:=#[.int .i64 a0_0,.int .i64 a0_1,.int .i64 a0_2,.int .i64 a0_3,.int .i64 a0_4,.slice A0_5 l0_5.length c0_5,.int .i64 a0_6,.slice A0_7 l0_7.length c0_7]) (t:=45) ?hr ?_;(case hd=>rfl);(case hg=>rfl);(case hr=>first|(go_simp;done)|(go_simp;rfl));intro gb258 hg w10 hbox hb;have BK258:=mk0 (hbox);have GW258:=mk0 ((by rw [hg];exact (kZ HB.out):w.heap.size ≤ gb258));have GE258:=mk0 ((by rw [hg];exact (kZ HB.out):w.heap.size ≤ gb258));replace HB:=mk0 (kS HB.out hb);clear hb hbox hg;obtain⟨hcz11_0,hcz11_1,hcz11_2,hcz11_3,hcz11_4,hcz11_5,hcz11_6,hcz11_7,hfz11_0,hfz11_1,hfz11_2,hfz11_3,hfz11_4,hfz11_5,hfz11_6,hfz11_7⟩:=cz8 BK258.out)|((with_reducible refine gate_callee (f:=41) rfl ?_);refine goesL_ (some 8) rfl rfl Try.func41 (by kernel_rfl) rfl #[.agg #[.int .i64 a0_2,.int .i64 a0_3,.int .i64 a0_4,.slice A0_5 l0_5.length c0_5],.int .i64 a1] rfl (by (try simp only [mA,mC,mN]);first|done|rfl|(simp only [List.length_drop,List.length_take];rfl)) ?_;(with_reducible refine (laws_szPacked.calls a0_2 a0_3 a0_4 _ _ l0_5 a1 t259 _ ?side1 ?side2 A3.out).mono ?_);(case side1=>exact kC (Kd.C_below HR0_5.out HB.out));(case side2=>exact HC0_5.out);rintro e w12 ⟨rfl,hb⟩;refine⟨_,rfl,?_⟩;replace BK258:=mk0 (kK BK258.out hb);replace HB:=mk0 (kS HB.out hb);(try clear hb);obtain⟨hcz13_0,hcz13_1,hcz13_2,hcz13_3,hcz13_4,hcz13_5,hcz13_6,hcz13_7,hfz13_0,hfz13_1,hfz13_2,hfz13_3,hfz13_4,hfz13_5,hfz13_6,hfz13_7⟩:=cz8 BK258.out)|((with_reducible refine gate_callee (f:=42) rfl ?_);refine goesL_ (some 14) rfl rfl Try.func42 (by kernel_rfl) rfl #[.agg #[.int .i64 a0_6,.slice A0_7 l0_7.length c0_7],.int .i64 t259] rfl (by (try simp only [mA,mC,mN]);first|done|rfl|(simp only [List.length_drop,List.length_take];rfl)) ?_;(with_reducible refine (laws_szBits.calls a0_6 _ _ l0_7 t259 t260 _ ?side1 ?side2 A8.out).mono ?_);(case side1=>exact kC (Kd.C_below HR0_7.out HB.out));(case side2=>exact HC0_7.out);rintro e w14 ⟨rfl,hb⟩;refine⟨_,rfl,?_⟩;replace BK258:=mk0 (kK BK258.out hb);replace HB:=mk0 (kS HB.out hb);(try clear hb)))
  go_ret
  exact⟨by first|rfl|(simp [errW_none,errW_some] <;> rfl)|(simp [*,errW_none,errW_some] <;> rfl),kB HB.out⟩
 rw [if_neg c9] at H
 have c9b0:decide (t260 < 0) = false:=decide_eq_false c9
 clear c9
 obtain rfl:=Option.some.inj H
 go_enter Try.func17,Try.ntmps17
 go_wp2_with (first|((with_reducible refine gate_dst (N:=2) rfl ?_);refine box_event ?hg (N:=2) ?hd (cs:=#[.int .i64 a0_0,.int .i64 a0_1,.int .i64 a0_2,.int .i64 a0_3,.int .i64 a0_4,.slice A0_5 l0_5.length c0_5,.int .i64 a0_6,.slice A0_7 l0_7.length c0_7]) (t:=45) ?hr ?_;(case hd=>rfl);(case hg=>rfl);(case hr=>first|(go_simp;done)|(go_simp;rfl));intro gb258 hg w15 hbox hb;have BK258:=mk0 (hbox);have GW258:=mk0 ((by rw [hg];exact (kZ HB.out):w.heap.size ≤ gb258));have GE258:=mk0 ((by rw [hg];exact (kZ HB.out):w.heap.size ≤ gb258));replace HB:=mk0 (kS HB.out hb);clear hb hbox hg;obtain⟨hcz16_0,hcz16_1,hcz16_2,hcz16_3,hcz16_4,hcz16_5,hcz16_6,hcz16_7,hfz16_0,hfz16_1,hfz16_2,hfz16_3,hfz16_4,hfz16_5,hfz16_6,hfz16_7⟩:=cz8 BK258.out)|((with_reducible refine gate_callee (f:=41) rfl ?_);refine goesL_ (some 8) rfl rfl Try.func41 (by kernel_rfl) rfl #[.agg #[.int .i64 a0_2,.int .i64 a0_3,.int .i64 a0_4,.slice A0_5 l0_5.length c0_5],.int .i64 a1] rfl (by (try simp only [mA,mC,mN]);first|done|rfl|(simp only [List.length_drop,List.length_take];rfl)) ?_;(with_reducible refine (laws_szPacked.calls a0_2 a0_3 a0_4 _ _ l0_5 a1 t259 _ ?side1 ?side2 A3.out).mono ?_);(case side1=>exact kC (Kd.C_below HR0_5.out HB.out));(case side2=>exact HC0_5.out);rintro e w17 ⟨rfl,hb⟩;refine⟨_,rfl,?_⟩;replace BK258:=mk0 (kK BK258.out hb);replace HB:=mk0 (kS HB.out hb);(try clear hb);obtain⟨hcz18_0,hcz18_1,hcz18_2,hcz18_3,hcz18_4,hcz18_5,hcz18_6,hcz18_7,hfz18_0,hfz18_1,hfz18_2,hfz18_3,hfz18_4,hfz18_5,hfz18_6,hfz18_7⟩:=cz8 BK258.out)|((with_reducible refine gate_callee (f:=42) rfl ?_);refine goesL_ (some 14) rfl rfl Try.func42 (by kernel_rfl) rfl #[.agg #[.int .i64 a0_6,.slice A0_7 l0_7.length c0_7],.int .i64 t259] rfl (by (try simp only [mA,mC,mN]);first|done|rfl|(simp only [List.length_drop,List.length_take];rfl)) ?_;(with_reducible refine (laws_szBits.calls a0_6 _ _ l0_7 t259 t260 _ ?side1 ?side2 A8.out).mono ?_);(case side1=>exact kC (Kd.C_below HR0_7.out HB.out));(case side2=>exact HC0_7.out);rintro e w19 ⟨rfl,hb⟩;refine⟨_,rfl,?_⟩;replace BK258:=mk0 (kK BK258.out hb);replace HB:=mk0 (kS HB.out hb);(try clear hb)))
 go_ret
 exact⟨by first|rfl|(simp [errW_none,errW_some] <;> rfl)|(simp [*,errW_none,errW_some] <;> rfl),kB HB.out⟩

/-! ### laws_toUint64S: function 67 -/
def laws_toUint64S.l0 : Nat → List Int → Int → List Int → Option (List Int)
 | 0, _, _, _ => none
 | k + 1, x0, x4, x7 => if x4 < (x0.length : Int) then (if 0 ≤ x4 then (if x4 < (x7.length : Int) then (laws_toUint64S.l0 k x0 (wrap64 (x4 + 1)) (x7.set (x4 : Int).toNat (rd x0 x4))) else (none)) else (none)) else (some x7)
def laws_toUint64S.f (k : Nat) (l0 : List Int) : Option (List Int) := if 0 ≤ (l0.length : Int) then (if ((l0.length : Int) : Int).toNat ≤ 35184372088832 then (laws_toUint64S.l0 k l0 0 (List.replicate ((l0.length : Int) : Int).toNat 0)) else (none)) else (none)
theorem laws_toUint64S.mono_l : ∀ k, (∀ y0 y1 y2, LeO (laws_toUint64S.l0 k y0 y1 y2) (laws_toUint64S.l0 (k + 1) y0 y1 y2))
 | 0 => fun _ _ _ r h => by simp [laws_toUint64S.l0] at h
 | k + 1 => by
  have ih0 := laws_toUint64S.mono_l k
  ·intro y0 y1 y2
   unfold laws_toUint64S.l0
   repeat' first|(with_reducible first|exact ih0 _ _ _|exact LeO.refl _|exact LeO.none _|refine LeO.ite ?_ ?_|refine LeO.bind ?_ (fun _ => ?_))|exact LeO.none _|refine LeO.ite ?_ ?_|refine LeO.bind ?_ (fun _ => ?_)
theorem laws_toUint64S.mono : ∀ a0 k, LeO (laws_toUint64S.f k a0) (laws_toUint64S.f (k + 1) a0) := by
 intro a0 k
 have ih0 := laws_toUint64S.mono_l k
 unfold laws_toUint64S.f
 repeat' first|(with_reducible first|exact ih0 _ _ _|exact LeO.refl _|exact LeO.none _|refine LeO.ite ?_ ?_|refine LeO.bind ?_ (fun _ => ?_))|exact LeO.none _|refine LeO.ite ?_ ?_|refine LeO.bind ?_ (fun _ => ?_)
set_option maxHeartbeats 8000000 in
set_option maxRecDepth 100000 in
theorem laws_toUint64S.calls (k : Nat) (A0 : Option Addr) (c0 : Nat) (l0 : List Int) (r : List Int) (w : World) (hr0 : Kd.C (Kd.int .u64) w A0 l0.length l0) (hc0 : l0.length ≤ c0) (h : laws_toUint64S.f k l0 = some r) :
  Calls Try.prog 67 #[.slice A0 l0.length c0] w fun e w' => ∃ v0_ : Value, e = .returned (v0_) ∧ Kd.R (Kd.int .u64) 78 w' w.heap.size (fun _ => True) v0_ r ∧ Below w.heap.size w w' := by
 have HR0:=mk0 hr0
 have HC0:=mk0 hc0
 clear hr0 hc0
 have HB:=mk0 (Below.refl w.heap.size w)
 have H:(if 0 ≤ (l0.length:Int) then (if ((l0.length:Int):Int).toNat ≤ 35184372088832 then (laws_toUint64S.l0 k l0 0 (List.replicate ((l0.length:Int):Int).toNat 0)) else (none)) else (none)) = some r:=h
 clear h
 by_cases c2:0 ≤ (l0.length:Int)
 ·rw [if_pos c2] at H
  have c2b0:=eq_true c2
  have c2b1:decide (0 ≤ (l0.length:Int)) = true:=decide_eq_true c2
  clear c2
  by_cases c3:((l0.length:Int):Int).toNat ≤ 35184372088832
  ·rw [if_pos c3] at H
   have c3b0:=eq_true c3
   have c3b1:decide (((l0.length:Int):Int).toNat ≤ 35184372088832) = true:=decide_eq_true c3
   clear c3
   obtain⟨y261,hy261⟩:∃ y_:List Int,y_ = (List.replicate ((l0.length:Int):Int).toNat 0):=⟨_,rfl⟩
   replace H:(laws_toUint64S.l0 k l0 0 y261) = some r:=by first|(rw [hy261];with_reducible exact H)|(have H2_:=(Option.bind_some _ _).symm.trans H;rw [hy261];with_reducible exact H2_)|(have H2_:=(Option.bind_some _ _).symm.trans H;with_reducible exact H2_)|with_reducible exact H|(rw [hy261];exact H)|exact H
   have Ny261:=mk0 hy261
   clear hy261
   have H':=mk0 H
   clear H
   go_enter Try.func67,Try.ntmps67
   go_wp2_with (first|((with_reducible refine gate_dst (N:=7) rfl ?_);refine Kd.R_make (Kd.int .u64) _ 78 rfl (N:=7) rfl 27 _ _ rfl (l0.length:Int) rfl rfl Try.underlying27 (.int .u64 0) 8 info78 rfl (by decide) (by omega) 0 (ok:=fun _=>True) (okp:=fun _=>True) rfl (fun _ hk=>hk) trivial (of_decide_eq_true (by first|(with_reducible assumption)|assumption)) (Nat.le_trans (Nat.mul_le_mul_right _ (of_decide_eq_true (by first|(with_reducible assumption)|assumption):(l0.length:Int).toNat ≤ 35184372088832)) (by omega)) (Below.refl _ _) (Nat.le_refl _) ?_;intro v262 w4 ho5 hb hg_ hnew_;clear hg_ hnew_;(first|rw [← Ny261.out] at ho5|(simp only [Int.reduceToNat] at ho5;rw [← Ny261.out] at ho5));have HO263:=mk0 (Kd.R_lower ho5 (kZ HB.out));replace HB:=mk0 (kS HB.out hb);clear hb ho5))
   go_loopg [4] k (fun kq v4 w'=>∃ (x4_1:Int) (x7_1:List Int),v4 = .int .i64 x4_1 ∧ Aside0 (laws_toUint64S.l0 kq l0 x4_1 x7_1 = some r) ∧ Aside0 (kq ≤ k) ∧ Aside0 (Kd.R (Kd.int .u64) 78 w' w.heap.size (fun _=>True) v262 x7_1) ∧ Aside0 (Below w.heap.size w w'))
   case atStart=>exact⟨(0),(y261),(by first|rfl|(simp;done)|(simp [*];done)),H',⟨Nat.le_refl _⟩,⟨rR HO263.out⟩,⟨kB HB.out⟩⟩
   case round =>
    clear H'
    try clear c2
    try clear c2b0
    try clear c2b1
    try clear p2
    try clear c3
    try clear c3b0
    try clear c3b1
    obtain⟨x4_1,x7_1,rfl,HA,HK1,HO_7,HB⟩:=hrel
    cases gk with
    | zero=>exact absurd HA.out (by simp [laws_toUint64S.l0])
    | succ k1 =>
     have H:=HA.out
     clear HA
     simp only [laws_toUint64S.l0] at H
     by_cases c6:x4_1 < (l0.length:Int)
     ·rw [if_pos c6] at H
      have c6b0:decide (x4_1 < (l0.length:Int)) = true:=decide_eq_true c6
      clear c6
      by_cases c7:0 ≤ x4_1
      ·rw [if_pos c7] at H
       have c7b0:decide (0 ≤ x4_1) = true:=decide_eq_true c7
       clear c7
       by_cases c8:x4_1 < (x7_1.length:Int)
       ·rw [if_pos c8] at H
        have c8b0:decide (x4_1 < (x7_1.length:Int)) = true:=decide_eq_true c8
        clear c8
        obtain⟨y265,hy265⟩:∃ y_:List Int,y_ = (x7_1.set (x4_1:Int).toNat (rd l0 x4_1)):=⟨_,rfl⟩
        replace H:(laws_toUint64S.l0 k1 l0 (wrap64 (x4_1 + 1)) y265) = some r:=by first|(rw [hy265];with_reducible exact H)|(have H2_:=(Option.bind_some _ _).symm.trans H;rw [hy265];with_reducible exact H2_)|(have H2_:=(Option.bind_some _ _).symm.trans H;with_reducible exact H2_)|with_reducible exact H|(rw [hy265];exact H)|exact H
        have Ny265:=mk0 hy265
        clear hy265
        have H':=mk0 H
        clear H
        have p264:0 ≤ (x4_1:Int):=of_decide_eq_true (by first|(with_reducible assumption)|assumption)
        have q264:x4_1 < (l0.length:Int):=of_decide_eq_true (by first|(with_reducible assumption)|assumption)
        obtain⟨ad264,e264,hx264_0⟩:=Kd.at_int HR0.out x4_1 p264 q264
        cases e264
        replace hx264_0:=(HB.out.cell (World.block_lt_of_cell? w _ hx264_0)).trans hx264_0
        replace p264:=eq_true p264
        replace q264:=eq_true q264
        have p9:0 ≤ (x4_1:Int):=of_decide_eq_true (by first|(with_reducible assumption)|assumption)
        have q9:(x4_1:Int) < ((x7_1.length:Int):Int):=of_decide_eq_true (by first|(with_reducible assumption)|assumption)
        obtain⟨go9,co9,eo9,gb9,gl9,cl9,HG9⟩:=Kd.R_form HO_7.out (by omega)
        (first|cases eo9|(injection eo9 with ea_ en_ ec_;(first|subst ea_|(injection ea_ with ea_;subst ea_));subst ec_;clear en_))
        have GB9:=mk0 gb9
        have GG9:=mk0 HG9
        clear gb9 gl9 HG9
        obtain⟨hx9_0,hf9_0⟩:=Kd.R_celln 0 HO_7.out (x4_1:Int) p9 q9
        replace p9:=eq_true p9
        replace q9:=eq_true q9
        have HP10:=Kd.R_putg HO_7.out (x4_1:Int) (rd l0 x4_1)
        go_wp2_with (first|((with_reducible refine gate_store (t:=78) (p:=20) rfl ?_);refine store_event (t:=78) (p:=20) (v:=?vo_w11) (w1:=(wr.setCell ⟨go9,(x4_1:Int).toNat,none⟩ (.int .u64 (rd l0 x4_1)))) ?hg ?ho ?hn ?hr ?_;(case ho=>rfl);(case hg=>rfl);(case hn=>rfl);(case hr=>first|(go_simp;done)|(go_simp;rfl));intro w11 hw;have hg:wr.grownBy w11 (some go9):=(by rw [hw];exact HP10.2);have hp_:Kd.R (Kd.int .u64) 78 w11 w.heap.size (fun _=>True) (.slice (some ⟨go9,0,none⟩) x7_1.length co9) y265:=(by rw [hw,Ny265.out];exact HP10.1);clear HP10;replace HO_7:=mk0 (hp_);replace HB:=mk0 ((by rw [hw];exact sZ (HB.out) GB9.out:Below w.heap.size w w11));clear hg hw hp_))
        go_roundg k1
        case measure=>have:=HK1.out;omega
        case rel=>exact⟨(wrap64 (x4_1 + 1)),(y265),(by first|rfl|(simp;done)|(simp [*];done)),H',⟨by have:=HK1.out;omega⟩,⟨rR HO_7.out⟩,⟨kB HB.out⟩⟩
       ·rw [if_neg c8] at H
        exact absurd H (by simp)
      ·rw [if_neg c7] at H
       exact absurd H (by simp)
     ·rw [if_neg c6] at H
      have c6b0:decide (x4_1 < (l0.length:Int)) = false:=decide_eq_false c6
      clear c6
      obtain rfl:=Option.some.inj H
      go_wp2
      go_ret
      exact⟨_,by first|rfl|(simp [errW_none,errW_some] <;> rfl)|(simp [*,errW_none,errW_some] <;> rfl),rR HO_7.out,kB HB.out⟩
  ·rw [if_neg c3] at H
   exact absurd H (by simp)
 ·rw [if_neg c2] at H
  exact absurd H (by simp)

/-! ### laws_toBits: function 45 -/
def laws_toBits.f (k : Nat) (a0_0 : Int) (l0_1 : List Int) : Option (Int × List Int) := (laws_toUint64S.f k l0_1).bind fun t269 => (some (a0_0, t269))
theorem laws_toBits.mono : ∀ a0 a1 k, LeO (laws_toBits.f k a0 a1) (laws_toBits.f (k + 1) a0 a1) := by
 intro a0 a1 k
 unfold laws_toBits.f
 repeat' first|(with_reducible first|exact laws_toUint64S.mono _ _|exact LeO.refl _|exact LeO.none _|refine LeO.ite ?_ ?_|refine LeO.bind ?_ (fun _ => ?_))|exact LeO.none _|refine LeO.ite ?_ ?_|refine LeO.bind ?_ (fun _ => ?_)
set_option maxHeartbeats 8000000 in
set_option maxRecDepth 100000 in
theorem laws_toBits.calls (k : Nat) (a0_0 : Int) (A0_1 : Option Addr) (c0_1 : Nat) (l0_1 : List Int) (r1 : Int) (r2 : List Int) (w : World) (hr0_1 : Kd.C (Kd.int .u64) w A0_1 l0_1.length l0_1) (hc0_1 : l0_1.length ≤ c0_1) (h : laws_toBits.f k a0_0 l0_1 = some (r1, r2)) :
  Calls Try.prog 45 #[.agg #[.int .i64 a0_0, .slice A0_1 l0_1.length c0_1]] w fun e w' => ∃ v1_ : Value, e = .returned (.agg #[.int .i64 r1, v1_]) ∧ Kd.R (Kd.int .u64) 78 w' w.heap.size (fun _ => True) v1_ r2 ∧ Below w.heap.size w w' := by
 have hu41:=Try.underlying41
 have hu29:=Try.underlying29
 have HR0_1:=mk0 hr0_1
 have HC0_1:=mk0 hc0_1
 clear hr0_1 hc0_1
 have HB:=mk0 (Below.refl w.heap.size w)
 have H:((laws_toUint64S.f k l0_1).bind fun t269=>(some (a0_0,t269))) = some (r1,r2):=h
 clear h
 replace H:=Option.bind_eq_some_iff.mp H
 obtain⟨t269,A20,H⟩:=H
 replace H:(some (a0_0,t269)) = some (r1,r2):=H
 have A2:=mk0 A20
 clear A20
 simp only [Option.some.injEq,Prod.mk.injEq] at H
 obtain⟨rfl,rfl⟩:=H
 go_enter Try.func45,Try.ntmps45
 go_wp2_with (first|((with_reducible refine gate_dst (N:=1) rfl ?_);refine box_event ?hg (N:=1) ?hd (cs:=#[.int .i64 a0_0,.slice A0_1 l0_1.length c0_1]) (t:=41) ?hr ?_;(case hd=>rfl);(case hg=>rfl);(case hr=>first|(go_simp;done)|(go_simp;rfl));intro gb266 hg w3 hbox hb;have BK266:=mk0 (hbox);have GW266:=mk0 ((by rw [hg];exact (kZ HB.out):w.heap.size ≤ gb266));have GE266:=mk0 ((by rw [hg];exact (kZ HB.out):w.heap.size ≤ gb266));replace HB:=mk0 (kS HB.out hb);clear hb hbox hg)|((with_reducible refine gate_dst (N:=2) rfl ?_);refine box_event ?hg (N:=2) ?hd (cs:=#[.int .i64 0,.slice none 0 0]) (t:=29) ?hr ?_;(case hd=>rfl);(case hg=>rfl);(case hr=>first|(go_simp;done)|(go_simp;rfl));intro gb267 hg w4 hbox hb;have BK267:=mk0 (hbox);have GW267:=mk0 ((by rw [hg];exact (kZ HB.out):w.heap.size ≤ gb267));have GE267:=mk0 ((by rw [hg];exact (kZ HB.out):w.heap.size ≤ gb267));replace HB:=mk0 (kS HB.out hb);have NB266_267:=mk0 ((by rw [hg];exact Nat.ne_of_lt (kL BK266.out):gb266 ≠ gb267));have NB267_266:=mk0 ((by rw [hg];exact Nat.ne_of_gt (kL BK266.out):gb267 ≠ gb266));replace BK266:=mk0 (kK BK266.out hb);clear hb hbox hg)|((with_reducible refine gate_dst (N:=3) rfl ?_);refine box_event ?hg (N:=3) ?hd (cs:=#[.int .i64 0,.slice none 0 0]) (t:=29) ?hr ?_;(case hd=>rfl);(case hg=>rfl);(case hr=>first|(go_simp;done)|(go_simp;rfl));intro gb268 hg w5 hbox hb;have BK268:=mk0 (hbox);have GW268:=mk0 ((by rw [hg];exact (kZ HB.out):w.heap.size ≤ gb268));have GE268:=mk0 ((by rw [hg];exact (kZ HB.out):w.heap.size ≤ gb268));replace HB:=mk0 (kS HB.out hb);have NB266_268:=mk0 ((by rw [hg];exact Nat.ne_of_lt (kL BK266.out):gb266 ≠ gb268));have NB268_266:=mk0 ((by rw [hg];exact Nat.ne_of_gt (kL BK266.out):gb268 ≠ gb266));replace BK266:=mk0 (kK BK266.out hb);have NB267_268:=mk0 ((by rw [hg];exact Nat.ne_of_lt (kL BK267.out):gb267 ≠ gb268));have NB268_267:=mk0 ((by rw [hg];exact Nat.ne_of_gt (kL BK267.out):gb268 ≠ gb267));replace BK267:=mk0 (kK BK267.out hb);clear hb hbox hg;have hnb6:=NB266_267.out;have hnc6:=NB267_266.out;have hnb7:=NB266_268.out;have hnc7:=NB268_266.out;obtain⟨hcz8_0,hcz8_1,hfz8_0,hfz8_1⟩:=cz2 BK266.out;have hnb9:=NB268_267.out;have hnc9:=NB267_268.out;obtain⟨hcz10_0,hcz10_1,hfz10_0,hfz10_1⟩:=cz2 BK268.out)|((with_reducible refine gate_callee (f:=67) rfl ?_);refine goesL_ (some 9) rfl rfl Try.func67 (by kernel_rfl) rfl #[.slice A0_1 l0_1.length c0_1] rfl (by (try simp only [mA,mC,mN]);first|done|rfl|(simp only [List.length_drop,List.length_take];rfl)) ?_;(with_reducible refine (laws_toUint64S.calls k _ _ l0_1 t269 _ ?side1 ?side2 A2.out).mono ?_);(case side1=>exact Kd.C_below HR0_1.out (kB HB.out));(case side2=>exact HC0_1.out);rintro e w11 ⟨v270,rfl,ho0,hb⟩;refine⟨_,rfl,?_⟩;have HO271:=mk0 (Kd.R_lower ho0 (kZ HB.out));replace BK266:=mk0 (blk_below (g:=gb266) (o:=.cells #[.int .i64 a0_0,.slice A0_1 l0_1.length c0_1] 41 (0,0)) (by (with_reducible repeat (first|apply nB|apply dB|apply aB));refine blk_far ?_ NB266_268.out _;(with_reducible repeat (first|apply nB|apply dB|apply aB));exact BK266.out) hb);replace BK267:=mk0 (blk_below (g:=gb267) (o:=.cells #[.int .i64 0,.slice none 0 0] 29 (0,0)) (by (with_reducible repeat (first|apply nB|apply dB|apply aB));refine blk_far ?_ NB267_268.out _;(with_reducible repeat (first|apply nB|apply dB|apply aB));exact BK267.out) hb);replace BK268:=mk0 (blk_below (g:=gb268) (o:=.cells #[.int .i64 a0_0,.slice none 0 0] 29 (0,0)) (by (with_reducible repeat (first|apply nB|apply dB|apply aB));refine blk_put (cs:=#[.int .i64 0,.slice none 0 0]) ?_ 0 _ rfl;(with_reducible repeat (first|apply nB|apply dB|apply aB));exact BK268.out) hb);replace HB:=mk0 (kS HB.out hb);(try clear hb);(try clear ho0);obtain⟨Ao12,co12,eo12⟩:=Kd.R_slice HO271.out;subst eo12;obtain⟨hcz13_0,hcz13_1,hfz13_0,hfz13_1⟩:=cz2 BK268.out;obtain⟨hcz14_0,hcz14_1,hfz14_0,hfz14_1⟩:=cz2 BK267.out))
 refine bodyPost_ret (results_cell_row rfl _ _ gb267 29 #[.int .i64 a0_0,.slice Ao12 t269.length co12] (0,0) _ rfl (by (with_reducible repeat (first|apply nB|apply dB|apply aB));refine blk_put (cs:=#[.int .i64 a0_0,.slice none 0 0]) ?_ 1 _ rfl;(with_reducible repeat (first|apply nB|apply dB|apply aB));refine blk_put (cs:=#[.int .i64 0,.slice none 0 0]) ?_ 0 _ rfl;(with_reducible repeat (first|apply nB|apply dB|apply aB));refine blk_far ?_ NB267_268.out _;(with_reducible repeat (first|apply nB|apply dB|apply aB));exact BK267.out) Try.underlying29 rfl (by kernel_rfl)) rfl ?_
 exact⟨_,by first|rfl|(simp [errW_none,errW_some] <;> rfl)|(simp [*,errW_none,errW_some] <;> rfl),by (with_reducible repeat (first|apply aR|apply nR|apply dR));exact Kd.R_mono (Kd.R_far (p:=⟨gb267,1,none⟩) (Kd.R_far (p:=⟨gb267,0,none⟩) (Kd.R_far (p:=⟨gb268,1,none⟩) (Kd.R_types (Kd.R_types HO271.out BK268.out (by decide)) BK267.out (by decide)) (fun _ hk=>hk.1.2) (.slice Ao12 t269.length co12)) (fun _ hk=>hk.2) (.int .i64 a0_0)) (fun _ hk=>hk.2) (.slice Ao12 t269.length co12)) (fun _ hk=>trivial),kB HB.out⟩

/-! ### laws_toPacked: function 44 -/
def laws_toPacked.f (k : Nat) (a0_0 : Int) (a0_1 : Int) (a0_2 : Int) (l0_3 : List Int) : Option (Int × Int × Int × List Int) := (laws_toBits.f k a0_2 l0_3).bind fun bt275 => (some (a0_0, a0_1, bt275.1, bt275.2))
theorem laws_toPacked.mono : ∀ a0 a1 a2 a3 k, LeO (laws_toPacked.f k a0 a1 a2 a3) (laws_toPacked.f (k + 1) a0 a1 a2 a3) := by
 intro a0 a1 a2 a3 k
 unfold laws_toPacked.f
 repeat' first|(with_reducible first|exact laws_toBits.mono _ _ _|exact LeO.refl _|exact LeO.none _|refine LeO.ite ?_ ?_|refine LeO.bind ?_ (fun _ => ?_))|exact LeO.none _|refine LeO.ite ?_ ?_|refine LeO.bind ?_ (fun _ => ?_)
set_option maxHeartbeats 8000000 in
set_option maxRecDepth 100000 in
theorem laws_toPacked.calls (k : Nat) (a0_0 : Int) (a0_1 : Int) (a0_2 : Int) (A0_3 : Option Addr) (c0_3 : Nat) (l0_3 : List Int) (r1 : Int) (r2 : Int) (r3 : Int) (r4 : List Int) (w : World) (hr0_3 : Kd.C (Kd.int .u64) w A0_3 l0_3.length l0_3) (hc0_3 : l0_3.length ≤ c0_3) (h : laws_toPacked.f k a0_0 a0_1 a0_2 l0_3 = some (r1, r2, r3, r4)) :
  Calls Try.prog 44 #[.agg #[.int .i64 a0_0, .int .i64 a0_1, .int .i64 a0_2, .slice A0_3 l0_3.length c0_3]] w fun e w' => ∃ v3_ : Value, e = .returned (.agg #[.int .i64 r1, .int .i64 r2, .int .i64 r3, v3_]) ∧ Kd.R (Kd.int .u64) 78 w' w.heap.size (fun _ => True) v3_ r4 ∧ Below w.heap.size w w' := by
 have hu43:=Try.underlying43
 have hu31:=Try.underlying31
 have hu41:=Try.underlying41
 have hu29:=Try.underlying29
 have HR0_3:=mk0 hr0_3
 have HC0_3:=mk0 hc0_3
 clear hr0_3 hc0_3
 have HB:=mk0 (Below.refl w.heap.size w)
 have H:((laws_toBits.f k a0_2 l0_3).bind fun bt275=>(some (a0_0,a0_1,bt275.1,bt275.2))) = some (r1,r2,r3,r4):=h
 clear h
 replace H:=Option.bind_eq_some_iff.mp H
 obtain⟨⟨t275,t276⟩,A20,H⟩:=H
 replace H:(some (a0_0,a0_1,t275,t276)) = some (r1,r2,r3,r4):=H
 have A2:=mk0 A20
 clear A20
 simp only [Option.some.injEq,Prod.mk.injEq] at H
 obtain⟨rfl,rfl,rfl,rfl⟩:=H
 go_enter Try.func44,Try.ntmps44
 go_wp2_with (first|((with_reducible refine gate_dst (N:=1) rfl ?_);refine box_event ?hg (N:=1) ?hd (cs:=#[.int .i64 a0_0,.int .i64 a0_1,.int .i64 a0_2,.slice A0_3 l0_3.length c0_3]) (t:=43) ?hr ?_;(case hd=>rfl);(case hg=>rfl);(case hr=>first|(go_simp;done)|(go_simp;rfl));intro gb272 hg w3 hbox hb;have BK272:=mk0 (hbox);have GW272:=mk0 ((by rw [hg];exact (kZ HB.out):w.heap.size ≤ gb272));have GE272:=mk0 ((by rw [hg];exact (kZ HB.out):w.heap.size ≤ gb272));replace HB:=mk0 (kS HB.out hb);clear hb hbox hg)|((with_reducible refine gate_dst (N:=2) rfl ?_);refine box_event ?hg (N:=2) ?hd (cs:=#[.int .i64 0,.int .i64 0,.int .i64 0,.slice none 0 0]) (t:=31) ?hr ?_;(case hd=>rfl);(case hg=>rfl);(case hr=>first|(go_simp;done)|(go_simp;rfl));intro gb273 hg w4 hbox hb;have BK273:=mk0 (hbox);have GW273:=mk0 ((by rw [hg];exact (kZ HB.out):w.heap.size ≤ gb273));have GE273:=mk0 ((by rw [hg];exact (kZ HB.out):w.heap.size ≤ gb273));replace HB:=mk0 (kS HB.out hb);have NB272_273:=mk0 ((by rw [hg];exact Nat.ne_of_lt (kL BK272.out):gb272 ≠ gb273));have NB273_272:=mk0 ((by rw [hg];exact Nat.ne_of_gt (kL BK272.out):gb273 ≠ gb272));replace BK272:=mk0 (kK BK272.out hb);clear hb hbox hg)|((with_reducible refine gate_dst (N:=3) rfl ?_);refine box_event ?hg (N:=3) ?hd (cs:=#[.int .i64 0,.int .i64 0,.int .i64 0,.slice none 0 0]) (t:=31) ?hr ?_;(case hd=>rfl);(case hg=>rfl);(case hr=>first|(go_simp;done)|(go_simp;rfl));intro gb274 hg w5 hbox hb;have BK274:=mk0 (hbox);have GW274:=mk0 ((by rw [hg];exact (kZ HB.out):w.heap.size ≤ gb274));have GE274:=mk0 ((by rw [hg];exact (kZ HB.out):w.heap.size ≤ gb274));replace HB:=mk0 (kS HB.out hb);have NB272_274:=mk0 ((by rw [hg];exact Nat.ne_of_lt (kL BK272.out):gb272 ≠ gb274));have NB274_272:=mk0 ((by rw [hg];exact Nat.ne_of_gt (kL BK272.out):gb274 ≠ gb272));replace BK272:=mk0 (kK BK272.out hb);have NB273_274:=mk0 ((by rw [hg];exact Nat.ne_of_lt (kL BK273.out):gb273 ≠ gb274));have NB274_273:=mk0 ((by rw [hg];exact Nat.ne_of_gt (kL BK273.out):gb274 ≠ gb273));replace BK273:=mk0 (kK BK273.out hb);clear hb hbox hg;have hnb6:=NB272_273.out;have hnc6:=NB273_272.out;have hnb7:=NB272_274.out;have hnc7:=NB274_272.out;obtain⟨hcz8_0,hcz8_1,hcz8_2,hcz8_3,hfz8_0,hfz8_1,hfz8_2,hfz8_3⟩:=cz4 BK272.out;have hnb9:=NB274_273.out;have hnc9:=NB273_274.out;obtain⟨hcz10_0,hcz10_1,hcz10_2,hcz10_3,hfz10_0,hfz10_1,hfz10_2,hfz10_3⟩:=cz4 BK274.out)|((with_reducible refine gate_callee (f:=45) rfl ?_);refine goesL_ (some 12) rfl rfl Try.func45 (by kernel_rfl) rfl #[.agg #[.int .i64 a0_2,.slice A0_3 l0_3.length c0_3]] rfl (by (try simp only [mA,mC,mN]);first|done|rfl|(simp only [List.length_drop,List.length_take];rfl)) ?_;(with_reducible refine (laws_toBits.calls k a0_2 _ _ l0_3 t275 t276 _ ?side1 ?side2 A2.out).mono ?_);(case side1=>exact Kd.C_below HR0_3.out (kB HB.out));(case side2=>exact HC0_3.out);rintro e w11 ⟨v277,rfl,ho0,hb⟩;refine⟨_,rfl,?_⟩;have HO278:=mk0 (Kd.R_lower ho0 (kZ HB.out));replace BK272:=mk0 (blk_below (g:=gb272) (o:=.cells #[.int .i64 a0_0,.int .i64 a0_1,.int .i64 a0_2,.slice A0_3 l0_3.length c0_3] 43 (0,0)) (by (with_reducible repeat (first|apply nB|apply dB|apply aB));refine blk_far ?_ NB272_274.out _;(with_reducible repeat (first|apply nB|apply dB|apply aB));refine blk_far ?_ NB272_274.out _;(with_reducible repeat (first|apply nB|apply dB|apply aB));exact BK272.out) hb);replace BK273:=mk0 (blk_below (g:=gb273) (o:=.cells #[.int .i64 0,.int .i64 0,.int .i64 0,.slice none 0 0] 31 (0,0)) (by (with_reducible repeat (first|apply nB|apply dB|apply aB));refine blk_far ?_ NB273_274.out _;(with_reducible repeat (first|apply nB|apply dB|apply aB));refine blk_far ?_ NB273_274.out _;(with_reducible repeat (first|apply nB|apply dB|apply aB));exact BK273.out) hb);replace BK274:=mk0 (blk_below (g:=gb274) (o:=.cells #[.int .i64 a0_0,.int .i64 a0_1,.int .i64 0,.slice none 0 0] 31 (0,0)) (by (with_reducible repeat (first|apply nB|apply dB|apply aB));refine blk_put (cs:=#[.int .i64 a0_0,.int .i64 0,.int .i64 0,.slice none 0 0]) ?_ 1 _ rfl;(with_reducible repeat (first|apply nB|apply dB|apply aB));refine blk_put (cs:=#[.int .i64 0,.int .i64 0,.int .i64 0,.slice none 0 0]) ?_ 0 _ rfl;(with_reducible repeat (first|apply nB|apply dB|apply aB));exact BK274.out) hb);replace HB:=mk0 (kS HB.out hb);(try clear hb);(try clear ho0);obtain⟨hcz12_0,hcz12_1,hcz12_2,hcz12_3,hfz12_0,hfz12_1,hfz12_2,hfz12_3⟩:=cz4 BK274.out;obtain⟨Ao13,co13,eo13⟩:=Kd.R_slice HO278.out;subst eo13;obtain⟨hcz14_0,hcz14_1,hcz14_2,hcz14_3,hfz14_0,hfz14_1,hfz14_2,hfz14_3⟩:=cz4 BK273.out))
 refine bodyPost_ret (results_cell_row rfl _ _ gb273 31 #[.int .i64 a0_0,.int .i64 a0_1,.int .i64 t275,.slice Ao13 t276.length co13] (0,0) _ rfl (by (with_reducible repeat (first|apply nB|apply dB|apply aB));refine blk_put (cs:=#[.int .i64 a0_0,.int .i64 a0_1,.int .i64 t275,.slice none 0 0]) ?_ 3 _ rfl;(with_reducible repeat (first|apply nB|apply dB|apply aB));refine blk_put (cs:=#[.int .i64 a0_0,.int .i64 a0_1,.int .i64 0,.slice none 0 0]) ?_ 2 _ rfl;(with_reducible repeat (first|apply nB|apply dB|apply aB));refine blk_put (cs:=#[.int .i64 a0_0,.int .i64 0,.int .i64 0,.slice none 0 0]) ?_ 1 _ rfl;(with_reducible repeat (first|apply nB|apply dB|apply aB));refine blk_put (cs:=#[.int .i64 0,.int .i64 0,.int .i64 0,.slice none 0 0]) ?_ 0 _ rfl;(with_reducible repeat (first|apply nB|apply dB|apply aB));refine blk_far ?_ NB273_274.out _;(with_reducible repeat (first|apply nB|apply dB|apply aB));refine blk_far ?_ NB273_274.out _;(with_reducible repeat (first|apply nB|apply dB|apply aB));exact BK273.out) Try.underlying31 rfl (by kernel_rfl)) rfl ?_
 exact⟨_,by first|rfl|(simp [errW_none,errW_some] <;> rfl)|(simp [*,errW_none,errW_some] <;> rfl),by (with_reducible repeat (first|apply aR|apply nR|apply dR));exact Kd.R_mono (Kd.R_far (p:=⟨gb273,3,none⟩) (Kd.R_far (p:=⟨gb273,2,none⟩) (Kd.R_far (p:=⟨gb273,1,none⟩) (Kd.R_far (p:=⟨gb273,0,none⟩) (Kd.R_far (p:=⟨gb274,3,none⟩) (Kd.R_far (p:=⟨gb274,2,none⟩) (Kd.R_types (Kd.R_types HO278.out BK274.out (by decide)) BK273.out (by decide)) (fun _ hk=>hk.1.2) (.int .i64 t275)) (fun _ hk=>hk.1.2) (.slice Ao13 t276.length co13)) (fun _ hk=>hk.2) (.int .i64 a0_0)) (fun _ hk=>hk.2) (.int .i64 a0_1)) (fun _ hk=>hk.2) (.int .i64 t275)) (fun _ hk=>hk.2) (.slice Ao13 t276.length co13)) (fun _ hk=>trivial),kB HB.out⟩

/-! ### laws_toSparse: function 19 -/
def laws_toSparse.f (k : Nat) (a0_0 : Int) (a0_1 : Int) (a0_2 : Int) (a0_3 : Int) (a0_4 : Int) (l0_5 : List Int) (a0_6 : Int) (l0_7 : List Int) : Option (Int × Int × Int × Int × Int × List Int × Int × List Int) := (laws_toPacked.f k a0_2 a0_3 a0_4 l0_5).bind fun bt282 => ((laws_toBits.f k a0_6 l0_7).bind fun bt288 => (some (a0_0, a0_1, bt282.1, bt282.2.1, bt282.2.2.1, bt282.2.2.2, bt288.1, bt288.2)))
theorem laws_toSparse.mono : ∀ a0 a1 a2 a3 a4 a5 a6 a7 k, LeO (laws_toSparse.f k a0 a1 a2 a3 a4 a5 a6 a7) (laws_toSparse.f (k + 1) a0 a1 a2 a3 a4 a5 a6 a7) := by
 intro a0 a1 a2 a3 a4 a5 a6 a7 k
 unfold laws_toSparse.f
 repeat' first|(with_reducible first|exact laws_toBits.mono _ _ _|exact laws_toPacked.mono _ _ _ _ _|exact LeO.refl _|exact LeO.none _|refine LeO.ite ?_ ?_|refine LeO.bind ?_ (fun _ => ?_))|exact LeO.none _|refine LeO.ite ?_ ?_|refine LeO.bind ?_ (fun _ => ?_)
set_option maxHeartbeats 8000000 in
set_option maxRecDepth 100000 in
theorem laws_toSparse.calls (k : Nat) (a0_0 : Int) (a0_1 : Int) (a0_2 : Int) (a0_3 : Int) (a0_4 : Int) (A0_5 : Option Addr) (c0_5 : Nat) (l0_5 : List Int) (a0_6 : Int) (A0_7 : Option Addr) (c0_7 : Nat) (l0_7 : List Int) (r1 : Int) (r2 : Int) (r3 : Int) (r4 : Int) (r5 : Int) (r6 : List Int) (r7 : Int) (r8 : List Int) (w : World) (hr0_5 : Kd.C (Kd.int .u64) w A0_5 l0_5.length l0_5) (hc0_5 : l0_5.length ≤ c0_5) (hr0_7 : Kd.C (Kd.int .u64) w A0_7 l0_7.length l0_7) (hc0_7 : l0_7.length ≤ c0_7) (h : laws_toSparse.f k a0_0 a0_1 a0_2 a0_3 a0_4 l0_5 a0_6 l0_7 = some (r1, r2, r3, r4, r5, r6, r7, r8)) :
  Calls Try.prog 19 #[.agg #[.int .i64 a0_0, .int .i64 a0_1, .int .i64 a0_2, .int .i64 a0_3, .int .i64 a0_4, .slice A0_5 l0_5.length c0_5, .int .i64 a0_6, .slice A0_7 l0_7.length c0_7]] w fun e w' => ∃ v5_ v7_ : Value, e = .returned (.agg #[.int .i64 r1, .int .i64 r2, .int .i64 r3, .int .i64 r4, .int .i64 r5, v5_, .int .i64 r7, v7_]) ∧ Kd.R (Kd.int .u64) 78 w' w.heap.size (fun k_ => some k_ ≠ (v7_ : Value).ownBlock) v5_ r6 ∧ Kd.R (Kd.int .u64) 78 w' w.heap.size (fun k_ => some k_ ≠ (v5_ : Value).ownBlock) v7_ r8 ∧ Below w.heap.size w w' := by
 have hu45:=Try.underlying45
 have hu33:=Try.underlying33
 have hu43:=Try.underlying43
 have hu31:=Try.underlying31
 have hu41:=Try.underlying41
 have hu29:=Try.underlying29
 have HR0_5:=mk0 hr0_5
 have HC0_5:=mk0 hc0_5
 clear hr0_5 hc0_5
 have HR0_7:=mk0 hr0_7
 have HC0_7:=mk0 hc0_7
 clear hr0_7 hc0_7
 have HB:=mk0 (Below.refl w.heap.size w)
 have H:((laws_toPacked.f k a0_2 a0_3 a0_4 l0_5).bind fun bt282=>((laws_toBits.f k a0_6 l0_7).bind fun bt288=>(some (a0_0,a0_1,bt282.1,bt282.2.1,bt282.2.2.1,bt282.2.2.2,bt288.1,bt288.2)))) = some (r1,r2,r3,r4,r5,r6,r7,r8):=h
 clear h
 replace H:=Option.bind_eq_some_iff.mp H
 obtain⟨⟨t282,t283,t284,t285⟩,A20,H⟩:=H
 replace H:((laws_toBits.f k a0_6 l0_7).bind fun bt288=>(some (a0_0,a0_1,t282,t283,t284,t285,bt288.1,bt288.2))) = some (r1,r2,r3,r4,r5,r6,r7,r8):=H
 have A2:=mk0 A20
 clear A20
 replace H:=Option.bind_eq_some_iff.mp H
 obtain⟨⟨t288,t289⟩,A30,H⟩:=H
 replace H:(some (a0_0,a0_1,t282,t283,t284,t285,t288,t289)) = some (r1,r2,r3,r4,r5,r6,r7,r8):=H
 have A3:=mk0 A30
 clear A30
 simp only [Option.some.injEq,Prod.mk.injEq] at H
 obtain⟨rfl,rfl,rfl,rfl,rfl,rfl,rfl,rfl⟩:=H
 go_enter Try.func19,Try.ntmps19
 go_wp2_with (first|((with_reducible refine gate_dst (N:=1) rfl ?_);refine box_event ?hg (N:=1) ?hd (cs:=#[.int .i64 a0_0,.int .i64 a0_1,.int .i64 a0_2,.int .i64 a0_3,.int .i64 a0_4,.slice A0_5 l0_5.length c0_5,.int .i64 a0_6,.slice A0_7 l0_7.length c0_7]) (t:=45) ?hr ?_;(case hd=>rfl);(case hg=>rfl);(case hr=>first|(go_simp;done)|(go_simp;rfl));intro gb279 hg w4 hbox hb;have BK279:=mk0 (hbox);have GW279:=mk0 ((by rw [hg];exact (kZ HB.out):w.heap.size ≤ gb279));have GE279:=mk0 ((by rw [hg];exact (kZ HB.out):w.heap.size ≤ gb279));replace HB:=mk0 (kS HB.out hb);clear hb hbox hg)|((with_reducible refine gate_dst (N:=2) rfl ?_);refine box_event ?hg (N:=2) ?hd (cs:=#[.int .i64 0,.int .i64 0,.int .i64 0,.int .i64 0,.int .i64 0,.slice none 0 0,.int .i64 0,.slice none 0 0]) (t:=33) ?hr ?_;(case hd=>rfl);(case hg=>rfl);(case hr=>first|(go_simp;done)|(go_simp;rfl));intro gb280 hg w5 hbox hb;have BK280:=mk0 (hbox);have GW280:=mk0 ((by rw [hg];exact (kZ HB.out):w.heap.size ≤ gb280));have GE280:=mk0 ((by rw [hg];exact (kZ HB.out):w.heap.size ≤ gb280));replace HB:=mk0 (kS HB.out hb);have NB279_280:=mk0 ((by rw [hg];exact Nat.ne_of_lt (kL BK279.out):gb279 ≠ gb280));have NB280_279:=mk0 ((by rw [hg];exact Nat.ne_of_gt (kL BK279.out):gb280 ≠ gb279));replace BK279:=mk0 (kK BK279.out hb);clear hb hbox hg)|((with_reducible refine gate_dst (N:=3) rfl ?_);refine box_event ?hg (N:=3) ?hd (cs:=#[.int .i64 0,.int .i64 0,.int .i64 0,.int .i64 0,.int .i64 0,.slice none 0 0,.int .i64 0,.slice none 0 0]) (t:=33) ?hr ?_;(case hd=>rfl);(case hg=>rfl);(case hr=>first|(go_simp;done)|(go_simp;rfl));intro gb281 hg w6 hbox hb;have BK281:=mk0 (hbox);have GW281:=mk0 ((by rw [hg];exact (kZ HB.out):w.heap.size ≤ gb281));have GE281:=mk0 ((by rw [hg];exact (kZ HB.out):w.heap.size ≤ gb281));replace HB:=mk0 (kS HB.out hb);have NB279_281:=mk0 ((by rw [hg];exact Nat.ne_of_lt (kL BK279.out):gb279 ≠ gb281));have NB281_279:=mk0 ((by rw [hg];exact Nat.ne_of_gt (kL BK279.out):gb281 ≠ gb279));replace BK279:=mk0 (kK BK279.out hb);have NB280_281:=mk0 ((by rw [hg];exact Nat.ne_of_lt (kL BK280.out):gb280 ≠ gb281));have NB281_280:=mk0 ((by rw [hg];exact Nat.ne_of_gt (kL BK280.out):gb281 ≠ gb280));replace BK280:=mk0 (kK BK280.out hb);clear hb hbox hg;have hnb7:=NB279_280.out;have hnc7:=NB280_279.out;have hnb8:=NB279_281.out;have hnc8:=NB281_279.out;obtain⟨hcz9_0,hcz9_1,hcz9_2,hcz9_3,hcz9_4,hcz9_5,hcz9_6,hcz9_7,hfz9_0,hfz9_1,hfz9_2,hfz9_3,hfz9_4,hfz9_5,hfz9_6,hfz9_7⟩:=cz8 BK279.out;have hnb10:=NB281_280.out;have hnc10:=NB280_281.out;obtain⟨hcz11_0,hcz11_1,hcz11_2,hcz11_3,hcz11_4,hcz11_5,hcz11_6,hcz11_7,hfz11_0,hfz11_1,hfz11_2,hfz11_3,hfz11_4,hfz11_5,hfz11_6,hfz11_7⟩:=cz8 BK281.out)|((with_reducible refine gate_callee (f:=44) rfl ?_);refine goesL_ (some 12) rfl rfl Try.func44 (by kernel_rfl) rfl #[.agg #[.int .i64 a0_2,.int .i64 a0_3,.int .i64 a0_4,.slice A0_5 l0_5.length c0_5]] rfl (by (try simp only [mA,mC,mN]);first|done|rfl|(simp only [List.length_drop,List.length_take];rfl)) ?_;(with_reducible refine (laws_toPacked.calls k a0_2 a0_3 a0_4 _ _ l0_5 t282 t283 t284 t285 _ ?side1 ?side2 A2.out).mono ?_);(case side1=>exact Kd.C_below HR0_5.out (kB HB.out));(case side2=>exact HC0_5.out);rintro e w12 ⟨v286,rfl,ho0,hb⟩;refine⟨_,rfl,?_⟩;have HO287:=mk0 (Kd.R_lower ho0 (kZ HB.out));replace BK279:=mk0 (blk_below (g:=gb279) (o:=.cells #[.int .i64 a0_0,.int .i64 a0_1,.int .i64 a0_2,.int .i64 a0_3,.int .i64 a0_4,.slice A0_5 l0_5.length c0_5,.int .i64 a0_6,.slice A0_7 l0_7.length c0_7] 45 (0,0)) (by (with_reducible repeat (first|apply nB|apply dB|apply aB));refine blk_far ?_ NB279_281.out _;(with_reducible repeat (first|apply nB|apply dB|apply aB));refine blk_far ?_ NB279_281.out _;(with_reducible repeat (first|apply nB|apply dB|apply aB));exact BK279.out) hb);replace BK280:=mk0 (blk_below (g:=gb280) (o:=.cells #[.int .i64 0,.int .i64 0,.int .i64 0,.int .i64 0,.int .i64 0,.slice none 0 0,.int .i64 0,.slice none 0 0] 33 (0,0)) (by (with_reducible repeat (first|apply nB|apply dB|apply aB));refine blk_far ?_ NB280_281.out _;(with_reducible repeat (first|apply nB|apply dB|apply aB));refine blk_far ?_ NB280_281.out _;(with_reducible repeat (first|apply nB|apply dB|apply aB));exact BK280.out) hb);replace BK281:=mk0 (blk_below (g:=gb281) (o:=.cells #[.int .i64 a0_0,.int .i64 a0_1,.int .i64 0,.int .i64 0,.int .i64 0,.slice none 0 0,.int .i64 0,.slice none 0 0] 33 (0,0)) (by (with_reducible repeat (first|apply nB|apply dB|apply aB));refine blk_put (cs:=#[.int .i64 a0_0,.int .i64 0,.int .i64 0,.int .i64 0,.int .i64 0,.slice none 0 0,.int .i64 0,.slice none 0 0]) ?_ 1 _ rfl;(with_reducible repeat (first|apply nB|apply dB|apply aB));refine blk_put (cs:=#[.int .i64 0,.int .i64 0,.int .i64 0,.int .i64 0,.int .i64 0,.slice none 0 0,.int .i64 0,.slice none 0 0]) ?_ 0 _ rfl;(with_reducible repeat (first|apply nB|apply dB|apply aB));exact BK281.out) hb);replace HB:=mk0 (kS HB.out hb);(try clear hb);(try clear ho0);obtain⟨hcz13_0,hcz13_1,hcz13_2,hcz13_3,hcz13_4,hcz13_5,hcz13_6,hcz13_7,hfz13_0,hfz13_1,hfz13_2,hfz13_3,hfz13_4,hfz13_5,hfz13_6,hfz13_7⟩:=cz8 BK281.out;obtain⟨Ao14,co14,eo14⟩:=Kd.R_slice HO287.out;subst eo14;obtain⟨hcz15_0,hcz15_1,hcz15_2,hcz15_3,hcz15_4,hcz15_5,hcz15_6,hcz15_7,hfz15_0,hfz15_1,hfz15_2,hfz15_3,hfz15_4,hfz15_5,hfz15_6,hfz15_7⟩:=cz8 BK279.out)|((with_reducible refine gate_callee (f:=45) rfl ?_);refine goesL_ (some 16) rfl rfl Try.func45 (by kernel_rfl) rfl #[.agg #[.int .i64 a0_6,.slice A0_7 l0_7.length c0_7]] rfl (by (try simp only [mA,mC,mN]);first|done|rfl|(simp only [List.length_drop,List.length_take];rfl)) ?_;(with_reducible refine (laws_toBits.calls k a0_6 _ _ l0_7 t288 t289 _ ?side1 ?side2 A3.out).mono ?_);(case side1=>exact Kd.C_below HR0_7.out (kB HB.out));(case side2=>exact HC0_7.out);rintro e w16 ⟨v290,rfl,ho0,hb⟩;refine⟨_,rfl,?_⟩;have HO291:=mk0 (Kd.R_lower (Kd.R_new' ho0 (Kd.R_lt (by (with_reducible repeat (first|apply aR|apply nR|apply dR));exact (Kd.R_mono (Kd.R_far (p:=⟨gb281,5,none⟩) (Kd.R_far (p:=⟨gb281,4,none⟩) (Kd.R_far (p:=⟨gb281,3,none⟩) (Kd.R_far (p:=⟨gb281,2,none⟩) (Kd.R_types HO287.out BK281.out (by decide)) (fun _ hk=>hk.2) (.int .i64 t282)) (fun _ hk=>hk.2) (.int .i64 t283)) (fun _ hk=>hk.2) (.int .i64 t284)) (fun _ hk=>hk.2) (.slice Ao14 t285.length co14)) (fun _ h_=>h_.1))))) (kZ HB.out));replace HO287:=mk0 (Kd.R_elder' (by (with_reducible repeat (first|apply aR|apply nR|apply dR));exact (Kd.R_mono (Kd.R_far (p:=⟨gb281,5,none⟩) (Kd.R_far (p:=⟨gb281,4,none⟩) (Kd.R_far (p:=⟨gb281,3,none⟩) (Kd.R_far (p:=⟨gb281,2,none⟩) (Kd.R_types HO287.out BK281.out (by decide)) (fun _ hk=>hk.2) (.int .i64 t282)) (fun _ hk=>hk.2) (.int .i64 t283)) (fun _ hk=>hk.2) (.int .i64 t284)) (fun _ hk=>hk.2) (.slice Ao14 t285.length co14)) (fun _ h_=>h_.1))) (Kd.R_base ho0) hb);replace BK279:=mk0 (blk_below (g:=gb279) (o:=.cells #[.int .i64 a0_0,.int .i64 a0_1,.int .i64 a0_2,.int .i64 a0_3,.int .i64 a0_4,.slice A0_5 l0_5.length c0_5,.int .i64 a0_6,.slice A0_7 l0_7.length c0_7] 45 (0,0)) (by (with_reducible repeat (first|apply nB|apply dB|apply aB));refine blk_far ?_ NB279_281.out _;(with_reducible repeat (first|apply nB|apply dB|apply aB));refine blk_far ?_ NB279_281.out _;(with_reducible repeat (first|apply nB|apply dB|apply aB));refine blk_far ?_ NB279_281.out _;(with_reducible repeat (first|apply nB|apply dB|apply aB));refine blk_far ?_ NB279_281.out _;(with_reducible repeat (first|apply nB|apply dB|apply aB));exact BK279.out) hb);replace BK280:=mk0 (blk_below (g:=gb280) (o:=.cells #[.int .i64 0,.int .i64 0,.int .i64 0,.int .i64 0,.int .i64 0,.slice none 0 0,.int .i64 0,.slice none 0 0] 33 (0,0)) (by (with_reducible repeat (first|apply nB|apply dB|apply aB));refine blk_far ?_ NB280_281.out _;(with_reducible repeat (first|apply nB|apply dB|apply aB));refine blk_far ?_ NB280_281.out _;(with_reducible repeat (first|apply nB|apply dB|apply aB));refine blk_far ?_ NB280_281.out _;(with_reducible repeat (first|apply nB|apply dB|apply aB));refine blk_far ?_ NB280_281.out _;(with_reducible repeat (first|apply nB|apply dB|apply aB));exact BK280.out) hb);replace BK281:=mk0 (blk_below (g:=gb281) (o:=.cells #[.int .i64 a0_0,.int .i64 a0_1,.int .i64 t282,.int .i64 t283,.int .i64 t284,.slice Ao14 t285.length co14,.int .i64 0,.slice none 0 0] 33 (0,0)) (by (with_reducible repeat (first|apply nB|apply dB|apply aB));refine blk_put (cs:=#[.int .i64 a0_0,.int .i64 a0_1,.int .i64 t282,.int .i64 t283,.int .i64 t284,.slice none 0 0,.int .i64 0,.slice none 0 0]) ?_ 5 _ rfl;(with_reducible repeat (first|apply nB|apply dB|apply aB));refine blk_put (cs:=#[.int .i64 a0_0,.int .i64 a0_1,.int .i64 t282,.int .i64 t283,.int .i64 0,.slice none 0 0,.int .i64 0,.slice none 0 0]) ?_ 4 _ rfl;(with_reducible repeat (first|apply nB|apply dB|apply aB));refine blk_put (cs:=#[.int .i64 a0_0,.int .i64 a0_1,.int .i64 t282,.int .i64 0,.int .i64 0,.slice none 0 0,.int .i64 0,.slice none 0 0]) ?_ 3 _ rfl;(with_reducible repeat (first|apply nB|apply dB|apply aB));refine blk_put (cs:=#[.int .i64 a0_0,.int .i64 a0_1,.int .i64 0,.int .i64 0,.int .i64 0,.slice none 0 0,.int .i64 0,.slice none 0 0]) ?_ 2 _ rfl;(with_reducible repeat (first|apply nB|apply dB|apply aB));exact BK281.out) hb);replace HB:=mk0 (kS HB.out hb);(try clear hb);(try clear ho0);obtain⟨hcz17_0,hcz17_1,hcz17_2,hcz17_3,hcz17_4,hcz17_5,hcz17_6,hcz17_7,hfz17_0,hfz17_1,hfz17_2,hfz17_3,hfz17_4,hfz17_5,hfz17_6,hfz17_7⟩:=cz8 BK281.out;obtain⟨Ao18,co18,eo18⟩:=Kd.R_slice HO291.out;subst eo18;obtain⟨hcz19_0,hcz19_1,hcz19_2,hcz19_3,hcz19_4,hcz19_5,hcz19_6,hcz19_7,hfz19_0,hfz19_1,hfz19_2,hfz19_3,hfz19_4,hfz19_5,hfz19_6,hfz19_7⟩:=cz8 BK280.out))
 refine bodyPost_ret (results_cell_row rfl _ _ gb280 33 #[.int .i64 a0_0,.int .i64 a0_1,.int .i64 t282,.int .i64 t283,.int .i64 t284,.slice Ao14 t285.length co14,.int .i64 t288,.slice Ao18 t289.length co18] (0,0) _ rfl (by (with_reducible repeat (first|apply nB|apply dB|apply aB));refine blk_put (cs:=#[.int .i64 a0_0,.int .i64 a0_1,.int .i64 t282,.int .i64 t283,.int .i64 t284,.slice Ao14 t285.length co14,.int .i64 t288,.slice none 0 0]) ?_ 7 _ rfl;(with_reducible repeat (first|apply nB|apply dB|apply aB));refine blk_put (cs:=#[.int .i64 a0_0,.int .i64 a0_1,.int .i64 t282,.int .i64 t283,.int .i64 t284,.slice Ao14 t285.length co14,.int .i64 0,.slice none 0 0]) ?_ 6 _ rfl;(with_reducible repeat (first|apply nB|apply dB|apply aB));refine blk_put (cs:=#[.int .i64 a0_0,.int .i64 a0_1,.int .i64 t282,.int .i64 t283,.int .i64 t284,.slice none 0 0,.int .i64 0,.slice none 0 0]) ?_ 5 _ rfl;(with_reducible repeat (first|apply nB|apply dB|apply aB));refine blk_put (cs:=#[.int .i64 a0_0,.int .i64 a0_1,.int .i64 t282,.int .i64 t283,.int .i64 0,.slice none 0 0,.int .i64 0,.slice none 0 0]) ?_ 4 _ rfl;(with_reducible repeat (first|apply nB|apply dB|apply aB));refine blk_put (cs:=#[.int .i64 a0_0,.int .i64 a0_1,.int .i64 t282,.int .i64 0,.int .i64 0,.slice none 0 0,.int .i64 0,.slice none 0 0]) ?_ 3 _ rfl;(with_reducible repeat (first|apply nB|apply dB|apply aB));refine blk_put (cs:=#[.int .i64 a0_0,.int .i64 a0_1,.int .i64 0,.int .i64 0,.int .i64 0,.slice none 0 0,.int .i64 0,.slice none 0 0]) ?_ 2 _ rfl;(with_reducible repeat (first|apply nB|apply dB|apply aB));refine blk_put (cs:=#[.int .i64 a0_0,.int .i64 0,.int .i64 0,.int .i64 0,.int .i64 0,.slice none 0 0,.int .i64 0,.slice none 0 0]) ?_ 1 _ rfl;(with_reducible repeat (first|apply nB|apply dB|apply aB));refine blk_put (cs:=#[.int .i64 0,.int .i64 0,.int .i64 0,.int .i64 0,.int .i64 0,.slice none 0 0,.int .i64 0,.slice none 0 0]) ?_ 0 _ rfl;(with_reducible repeat (first|apply nB|apply dB|apply aB));refine blk_far ?_ NB280_281.out _;(with_reducible repeat (first|apply nB|apply dB|apply aB));refine blk_far ?_ NB280_281.out _;(with_reducible repeat (first|apply nB|apply dB|apply aB));exact BK280.out) Try.underlying33 rfl (by kernel_rfl)) rfl ?_
 exact⟨_,_,by first|rfl|(simp [errW_none,errW_some] <;> rfl)|(simp [*,errW_none,errW_some] <;> rfl),by (with_reducible repeat (first|apply aR|apply nR|apply dR));exact Kd.R_mono (Kd.R_far (p:=⟨gb280,7,none⟩) (Kd.R_far (p:=⟨gb280,6,none⟩) (Kd.R_far (p:=⟨gb280,5,none⟩) (Kd.R_far (p:=⟨gb280,4,none⟩) (Kd.R_far (p:=⟨gb280,3,none⟩) (Kd.R_far (p:=⟨gb280,2,none⟩) (Kd.R_far (p:=⟨gb280,1,none⟩) (Kd.R_far (p:=⟨gb280,0,none⟩) (Kd.R_far (p:=⟨gb281,7,none⟩) (Kd.R_far (p:=⟨gb281,6,none⟩) (Kd.R_types (Kd.R_types HO287.out BK281.out (by decide)) BK280.out (by decide)) (fun _ hk=>hk.1.2) (.int .i64 t288)) (fun _ hk=>hk.1.2) (.slice Ao18 t289.length co18)) (fun _ hk=>hk.2) (.int .i64 a0_0)) (fun _ hk=>hk.2) (.int .i64 a0_1)) (fun _ hk=>hk.2) (.int .i64 t282)) (fun _ hk=>hk.2) (.int .i64 t283)) (fun _ hk=>hk.2) (.int .i64 t284)) (fun _ hk=>hk.2) (.slice Ao14 t285.length co14)) (fun _ hk=>hk.2) (.int .i64 t288)) (fun _ hk=>hk.2) (.slice Ao18 t289.length co18)) (fun _ hk=>hk.1.1.2),by (with_reducible repeat (first|apply aR|apply nR|apply dR));exact Kd.R_mono (Kd.R_far (p:=⟨gb280,7,none⟩) (Kd.R_far (p:=⟨gb280,6,none⟩) (Kd.R_far (p:=⟨gb280,5,none⟩) (Kd.R_far (p:=⟨gb280,4,none⟩) (Kd.R_far (p:=⟨gb280,3,none⟩) (Kd.R_far (p:=⟨gb280,2,none⟩) (Kd.R_far (p:=⟨gb280,1,none⟩) (Kd.R_far (p:=⟨gb280,0,none⟩) (Kd.R_far (p:=⟨gb281,7,none⟩) (Kd.R_far (p:=⟨gb281,6,none⟩) (Kd.R_types (Kd.R_types HO291.out BK281.out (by decide)) BK280.out (by decide)) (fun _ hk=>hk.1.2) (.int .i64 t288)) (fun _ hk=>hk.1.2) (.slice Ao18 t289.length co18)) (fun _ hk=>hk.2) (.int .i64 a0_0)) (fun _ hk=>hk.2) (.int .i64 a0_1)) (fun _ hk=>hk.2) (.int .i64 t282)) (fun _ hk=>hk.2) (.int .i64 t283)) (fun _ hk=>hk.2) (.int .i64 t284)) (fun _ hk=>hk.2) (.slice Ao14 t285.length co14)) (fun _ hk=>hk.2) (.int .i64 t288)) (fun _ hk=>hk.2) (.slice Ao18 t289.length co18)) (fun _ hk=>hk.1.1.2),kB HB.out⟩

/-! ### laws_eqUint64S: function 68 -/
def laws_eqUint64S.l0 : Nat → List Int → List Int → Int → Option (Bool)
 | 0, _, _, _ => none
 | k + 1, x0, x1, x5 => if x5 < (x0.length : Int) then (if 0 ≤ x5 then (if x5 < (x1.length : Int) then (if (rd x0 x5) = (rd x1 x5) then (laws_eqUint64S.l0 k x0 x1 (wrap64 (x5 + 1))) else (some false)) else (none)) else (none)) else (some true)
def laws_eqUint64S.f (k : Nat) (l0 : List Int) (l1 : List Int) : Option (Bool) := if (l0.length : Int) = (l1.length : Int) then (laws_eqUint64S.l0 k l0 l1 0) else (some false)
theorem laws_eqUint64S.mono_l : ∀ k, (∀ y0 y1 y2, LeO (laws_eqUint64S.l0 k y0 y1 y2) (laws_eqUint64S.l0 (k + 1) y0 y1 y2))
 | 0 => fun _ _ _ r h => by simp [laws_eqUint64S.l0] at h
 | k + 1 => by
  have ih0 := laws_eqUint64S.mono_l k
  ·intro y0 y1 y2
   unfold laws_eqUint64S.l0
   repeat' first|(with_reducible first|exact ih0 _ _ _|exact LeO.refl _|exact LeO.none _|refine LeO.ite ?_ ?_|refine LeO.bind ?_ (fun _ => ?_))|exact LeO.none _|refine LeO.ite ?_ ?_|refine LeO.bind ?_ (fun _ => ?_)
theorem laws_eqUint64S.mono : ∀ a0 a1 k, LeO (laws_eqUint64S.f k a0 a1) (laws_eqUint64S.f (k + 1) a0 a1) := by
 intro a0 a1 k
 have ih0 := laws_eqUint64S.mono_l k
 unfold laws_eqUint64S.f
 repeat' first|(with_reducible first|exact ih0 _ _ _|exact LeO.refl _|exact LeO.none _|refine LeO.ite ?_ ?_|refine LeO.bind ?_ (fun _ => ?_))|exact LeO.none _|refine LeO.ite ?_ ?_|refine LeO.bind ?_ (fun _ => ?_)
set_option maxHeartbeats 8000000 in
set_option maxRecDepth 100000 in
theorem laws_eqUint64S.calls (k : Nat) (A0 : Option Addr) (c0 : Nat) (l0 : List Int) (A1 : Option Addr) (c1 : Nat) (l1 : List Int) (r : Bool) (w : World) (hr0 : Kd.C (Kd.int .u64) w A0 l0.length l0) (hc0 : l0.length ≤ c0) (hr1 : Kd.C (Kd.int .u64) w A1 l1.length l1) (hc1 : l1.length ≤ c1) (h : laws_eqUint64S.f k l0 l1 = some r) :
  Calls Try.prog 68 #[.slice A0 l0.length c0, .slice A1 l1.length c1] w fun e w' => e = .returned (.bool r) ∧ Drawn0 w w' := by
 have HR0:=mk0 hr0
 have HC0:=mk0 hc0
 clear hr0 hc0
 have HR1:=mk0 hr1
 have HC1:=mk0 hc1
 clear hr1 hc1
 have H:(if (l0.length:Int) = (l1.length:Int) then (laws_eqUint64S.l0 k l0 l1 0) else (some false)) = some r:=h
 clear h
 by_cases c3:(l0.length:Int) = (l1.length:Int)
 ·rw [if_pos c3] at H
  have c3b0:((l0.length:Int) == (l1.length:Int)) = true:=beq_iff_eq.mpr c3
  have c3b1:((l0.length:Int) != (l1.length:Int)) = false:=bne_eq_false_iff_eq.mpr c3
  have c3b2:(l0.length == l1.length) = true:=by first|simpa using c3|(simp at c3 ⊢;omega)
  clear c3
  have H':=mk0 H
  clear H
  go_enter Try.func68,Try.ntmps68
  go_wp2
  repeat (go_quiet (fail);try go_wp2)
  go_loopg [5] k (fun kq v5 w'=>∃ (x5_1:Int),v5 = .int .i64 x5_1 ∧ Aside0 (laws_eqUint64S.l0 kq l0 l1 x5_1 = some r) ∧ Aside0 (kq ≤ k) ∧ Drawn0 w w')
  case atStart=>exact⟨(0),(by first|rfl|(simp;done)|(simp [*];done)),H',⟨Nat.le_refl _⟩,by repeat (first|exact Drawn0.refl _|apply Drawn0.step)⟩
  case round =>
   clear H'
   try clear c1
   try clear p2
   try clear c3
   try clear c3b0
   try clear c3b1
   try clear c3b2
   obtain⟨x5_1,rfl,HA,HK1,⟨m1,rfl⟩⟩:=hrel
   cases gk with
   | zero=>exact absurd HA.out (by simp [laws_eqUint64S.l0])
   | succ k1 =>
    have H:=HA.out
    clear HA
    simp only [laws_eqUint64S.l0] at H
    by_cases c4:x5_1 < (l0.length:Int)
    ·rw [if_pos c4] at H
     have c4b0:decide (x5_1 < (l0.length:Int)) = true:=decide_eq_true c4
     clear c4
     by_cases c5:0 ≤ x5_1
     ·rw [if_pos c5] at H
      have c5b0:decide (0 ≤ x5_1) = true:=decide_eq_true c5
      clear c5
      by_cases c6:x5_1 < (l1.length:Int)
      ·rw [if_pos c6] at H
       have c6b0:decide (x5_1 < (l1.length:Int)) = true:=decide_eq_true c6
       clear c6
       by_cases c7:(rd l0 x5_1) = (rd l1 x5_1)
       ·rw [if_pos c7] at H
        have c7b0:((rd l0 x5_1) == (rd l1 x5_1)) = true:=beq_iff_eq.mpr c7
        have c7b1:((rd l0 x5_1) != (rd l1 x5_1)) = false:=bne_eq_false_iff_eq.mpr c7
        clear c7
        have H':=mk0 H
        clear H
        have p292:0 ≤ (x5_1:Int):=of_decide_eq_true (by first|(with_reducible assumption)|assumption)
        have q292:x5_1 < (l0.length:Int):=of_decide_eq_true (by first|(with_reducible assumption)|assumption)
        obtain⟨ad292,e292,hx292_0⟩:=Kd.at_int HR0.out x5_1 p292 q292
        cases e292
        replace p292:=eq_true p292
        replace q292:=eq_true q292
        have p293:0 ≤ (x5_1:Int):=of_decide_eq_true (by first|(with_reducible assumption)|assumption)
        have q293:x5_1 < (l1.length:Int):=of_decide_eq_true (by first|(with_reducible assumption)|assumption)
        obtain⟨ad293,e293,hx293_0⟩:=Kd.at_int HR1.out x5_1 p293 q293
        cases e293
        replace p293:=eq_true p293
        replace q293:=eq_true q293
        go_wp2
        repeat (go_quiet (fail);try go_wp2)
        go_roundg k1
        case measure=>have:=HK1.out;omega
        case rel=>exact⟨(wrap64 (x5_1 + 1)),(by first|rfl|(simp;done)|(simp [*];done)),H',⟨by have:=HK1.out;omega⟩,by repeat (first|exact Drawn0.refl _|apply Drawn0.step)⟩
       ·rw [if_neg c7] at H
        have c7b0:((rd l0 x5_1) == (rd l1 x5_1)) = false:=beq_eq_false_iff_ne.mpr c7
        have c7b1:((rd l0 x5_1) != (rd l1 x5_1)) = true:=bne_iff_ne.mpr c7
        obtain rfl:=Option.some.inj H
        have p292:0 ≤ (x5_1:Int):=of_decide_eq_true (by first|(with_reducible assumption)|assumption)
        have q292:x5_1 < (l0.length:Int):=of_decide_eq_true (by first|(with_reducible assumption)|assumption)
        obtain⟨ad292,e292,hx292_0⟩:=Kd.at_int HR0.out x5_1 p292 q292
        cases e292
        replace p292:=eq_true p292
        replace q292:=eq_true q292
        have p293:0 ≤ (x5_1:Int):=of_decide_eq_true (by first|(with_reducible assumption)|assumption)
        have q293:x5_1 < (l1.length:Int):=of_decide_eq_true (by first|(with_reducible assumption)|assumption)
        obtain⟨ad293,e293,hx293_0⟩:=Kd.at_int HR1.out x5_1 p293 q293
        cases e293
        replace p293:=eq_true p293
        replace q293:=eq_true q293
        go_wp2
        repeat (go_quiet (fail);try go_wp2)
        go_ret
        exact⟨by first|rfl|(simp;done)|(simp [*];done),by repeat (first|exact Drawn0.refl _|apply Drawn0.step)⟩
      ·rw [if_neg c6] at H
       exact absurd H (by simp)
     ·rw [if_neg c5] at H
      exact absurd H (by simp)
    ·rw [if_neg c4] at H
     have c4b0:decide (x5_1 < (l0.length:Int)) = false:=decide_eq_false c4
     clear c4
     obtain rfl:=Option.some.inj H
     go_wp2
     repeat (go_quiet (fail);try go_wp2)
     go_ret
     exact⟨by first|rfl|(simp;done)|(simp [*];done),by repeat (first|exact Drawn0.refl _|apply Drawn0.step)⟩
 ·rw [if_neg c3] at H
  have c3b0:((l0.length:Int) == (l1.length:Int)) = false:=beq_eq_false_iff_ne.mpr c3
  have c3b1:((l0.length:Int) != (l1.length:Int)) = true:=bne_iff_ne.mpr c3
  have c3b2:(l0.length == l1.length) = false:=by first|simpa using c3|(simp at c3 ⊢;omega)
  obtain rfl:=Option.some.inj H
  go_enter Try.func68,Try.ntmps68
  go_wp2
  repeat (go_quiet (fail);try go_wp2)
  go_ret
  exact⟨by first|rfl|(simp;done)|(simp [*];done),by repeat (first|exact Drawn0.refl _|apply Drawn0.step)⟩

/-! ### laws_eqBits: function 47 -/
def laws_eqBits.f (k : Nat) (a0_0 : Int) (l0_1 : List Int) (a1_0 : Int) (l1_1 : List Int) : Option (Bool) := if a0_0 = a1_0 then ((laws_eqUint64S.f k l0_1 l1_1).bind fun t296 => (if t296 = true then (some true) else (some false))) else (some false)
theorem laws_eqBits.mono : ∀ a0 a1 a2 a3 k, LeO (laws_eqBits.f k a0 a1 a2 a3) (laws_eqBits.f (k + 1) a0 a1 a2 a3) := by
 intro a0 a1 a2 a3 k
 unfold laws_eqBits.f
 repeat' first|(with_reducible first|exact laws_eqUint64S.mono _ _ _|exact LeO.refl _|exact LeO.none _|refine LeO.ite ?_ ?_|refine LeO.bind ?_ (fun _ => ?_))|exact LeO.none _|refine LeO.ite ?_ ?_|refine LeO.bind ?_ (fun _ => ?_)
set_option maxHeartbeats 8000000 in
set_option maxRecDepth 100000 in
theorem laws_eqBits.calls (k : Nat) (a0_0 : Int) (A0_1 : Option Addr) (c0_1 : Nat) (l0_1 : List Int) (a1_0 : Int) (A1_1 : Option Addr) (c1_1 : Nat) (l1_1 : List Int) (r : Bool) (w : World) (hr0_1 : Kd.C (Kd.int .u64) w A0_1 l0_1.length l0_1) (hc0_1 : l0_1.length ≤ c0_1) (hr1_1 : Kd.C (Kd.int .u64) w A1_1 l1_1.length l1_1) (hc1_1 : l1_1.length ≤ c1_1) (h : laws_eqBits.f k a0_0 l0_1 a1_0 l1_1 = some r) :
  Calls Try.prog 47 #[.agg #[.int .i64 a0_0, .slice A0_1 l0_1.length c0_1], .agg #[.int .i64 a1_0, .slice A1_1 l1_1.length c1_1]] w fun e w' => e = .returned (.bool r) ∧ Below w.heap.size w w' := by
 have hu29:=Try.underlying29
 have HR0_1:=mk0 hr0_1
 have HC0_1:=mk0 hc0_1
 clear hr0_1 hc0_1
 have HR1_1:=mk0 hr1_1
 have HC1_1:=mk0 hc1_1
 clear hr1_1 hc1_1
 have HB:=mk0 (Below.refl w.heap.size w)
 have H:(if a0_0 = a1_0 then ((laws_eqUint64S.f k l0_1 l1_1).bind fun t296=>(if t296 = true then (some true) else (some false))) else (some false)) = some r:=h
 clear h
 by_cases c3:a0_0 = a1_0
 ·rw [if_pos c3] at H
  have c3b0:(a0_0 == a1_0) = true:=beq_iff_eq.mpr c3
  have c3b1:(a0_0 != a1_0) = false:=bne_eq_false_iff_eq.mpr c3
  clear c3
  replace H:=Option.bind_eq_some_iff.mp H
  obtain⟨t296,A40,H⟩:=H
  replace H:(if t296 = true then (some true) else (some false)) = some r:=H
  have A4:=mk0 A40
  clear A40
  by_cases c5:t296 = true
  ·subst c5
   have H1:(some true) = some r:=by rw [if_pos rfl] at H;exact H
   clear H
   have H:=H1
   clear H1
   obtain rfl:=Option.some.inj H
   go_enter Try.func47,Try.ntmps47
   go_wp2_with (first|((with_reducible refine gate_dst (N:=2) rfl ?_);refine box_event ?hg (N:=2) ?hd (cs:=#[.int .i64 a0_0,.slice A0_1 l0_1.length c0_1]) (t:=29) ?hr ?_;(case hd=>rfl);(case hg=>rfl);(case hr=>first|(go_simp;done)|(go_simp;rfl));intro gb294 hg w6 hbox hb;have BK294:=mk0 (hbox);have GW294:=mk0 ((by rw [hg];exact (kZ HB.out):w.heap.size ≤ gb294));have GE294:=mk0 ((by rw [hg];exact (kZ HB.out):w.heap.size ≤ gb294));replace HB:=mk0 (kS HB.out hb);clear hb hbox hg)|((with_reducible refine gate_dst (N:=3) rfl ?_);refine box_event ?hg (N:=3) ?hd (cs:=#[.int .i64 a1_0,.slice A1_1 l1_1.length c1_1]) (t:=29) ?hr ?_;(case hd=>rfl);(case hg=>rfl);(case hr=>first|(go_simp;done)|(go_simp;rfl));intro gb295 hg w7 hbox hb;have BK295:=mk0 (hbox);have GW295:=mk0 ((by rw [hg];exact (kZ HB.out):w.heap.size ≤ gb295));have GE295:=mk0 ((by rw [hg];exact (kZ HB.out):w.heap.size ≤ gb295));replace HB:=mk0 (kS HB.out hb);have NB294_295:=mk0 ((by rw [hg];exact Nat.ne_of_lt (kL BK294.out):gb294 ≠ gb295));have NB295_294:=mk0 ((by rw [hg];exact Nat.ne_of_gt (kL BK294.out):gb295 ≠ gb294));replace BK294:=mk0 (kK BK294.out hb);clear hb hbox hg;have hnb8:=NB294_295.out;have hnc8:=NB295_294.out;obtain⟨hcz9_0,hcz9_1,hfz9_0,hfz9_1⟩:=cz2 BK294.out;obtain⟨hcz10_0,hcz10_1,hfz10_0,hfz10_1⟩:=cz2 BK295.out)|((with_reducible refine gate_callee (f:=68) rfl ?_);refine goesL_ (some 14) rfl rfl Try.func68 (by kernel_rfl) rfl #[.slice A0_1 l0_1.length c0_1,.slice A1_1 l1_1.length c1_1] rfl (by (try simp only [mA,mC,mN]);first|done|rfl|(simp only [List.length_drop,List.length_take];rfl)) ?_;(with_reducible refine (laws_eqUint64S.calls k _ _ l0_1 _ _ l1_1 true _ ?side1 ?side2 ?side3 ?side4 A4.out).mono ?_);(case side1=>exact kC (Kd.C_below HR0_1.out HB.out));(case side2=>exact HC0_1.out);(case side3=>exact kC (Kd.C_below HR1_1.out HB.out));(case side4=>exact HC1_1.out);rintro e w' ⟨rfl,⟨nd,rfl⟩⟩;refine⟨_,rfl,?_⟩))
   go_ret
   exact⟨by first|rfl|(simp [errW_none,errW_some] <;> rfl)|(simp [*,errW_none,errW_some] <;> rfl),kB HB.out⟩
  ·replace c5:=Bool.eq_false_iff.mpr c5
   subst c5
   have H1:(some false) = some r:=by rw [if_neg (show ¬ (false = true) by decide)] at H;exact H
   clear H
   have H:=H1
   clear H1
   obtain rfl:=Option.some.inj H
   go_enter Try.func47,Try.ntmps47
   go_wp2_with (first|((with_reducible refine gate_dst (N:=2) rfl ?_);refine box_event ?hg (N:=2) ?hd (cs:=#[.int .i64 a0_0,.slice A0_1 l0_1.length c0_1]) (t:=29) ?hr ?_;(case hd=>rfl);(case hg=>rfl);(case hr=>first|(go_simp;done)|(go_simp;rfl));intro gb294 hg w11 hbox hb;have BK294:=mk0 (hbox);have GW294:=mk0 ((by rw [hg];exact (kZ HB.out):w.heap.size ≤ gb294));have GE294:=mk0 ((by rw [hg];exact (kZ HB.out):w.heap.size ≤ gb294));replace HB:=mk0 (kS HB.out hb);clear hb hbox hg)|((with_reducible refine gate_dst (N:=3) rfl ?_);refine box_event ?hg (N:=3) ?hd (cs:=#[.int .i64 a1_0,.slice A1_1 l1_1.length c1_1]) (t:=29) ?hr ?_;(case hd=>rfl);(case hg=>rfl);(case hr=>first|(go_simp;done)|(go_simp;rfl));intro gb295 hg w12 hbox hb;have BK295:=mk0 (hbox);have GW295:=mk0 ((by rw [hg];exact (kZ HB.out):w.heap.size ≤ gb295));have GE295:=mk0 ((by rw [hg];exact (kZ HB.out):w.heap.size ≤ gb295));replace HB:=mk0 (kS HB.out hb);have NB294_295:=mk0 ((by rw [hg];exact Nat.ne_of_lt (kL BK294.out):gb294 ≠ gb295));have NB295_294:=mk0 ((by rw [hg];exact Nat.ne_of_gt (kL BK294.out):gb295 ≠ gb294));replace BK294:=mk0 (kK BK294.out hb);clear hb hbox hg;have hnb13:=NB294_295.out;have hnc13:=NB295_294.out;obtain⟨hcz14_0,hcz14_1,hfz14_0,hfz14_1⟩:=cz2 BK294.out;obtain⟨hcz15_0,hcz15_1,hfz15_0,hfz15_1⟩:=cz2 BK295.out)|((with_reducible refine gate_callee (f:=68) rfl ?_);refine goesL_ (some 14) rfl rfl Try.func68 (by kernel_rfl) rfl #[.slice A0_1 l0_1.length c0_1,.slice A1_1 l1_1.length c1_1] rfl (by (try simp only [mA,mC,mN]);first|done|rfl|(simp only [List.length_drop,List.length_take];rfl)) ?_;(with_reducible refine (laws_eqUint64S.calls k _ _ l0_1 _ _ l1_1 false _ ?side1 ?side2 ?side3 ?side4 A4.out).mono ?_);(case side1=>exact kC (Kd.C_below HR0_1.out HB.out));(case side2=>exact HC0_1.out);(case side3=>exact kC (Kd.C_below HR1_1.out HB.out));(case side4=>exact HC1_1.out);rintro e w' ⟨rfl,⟨nd,rfl⟩⟩;refine⟨_,rfl,?_⟩))
   go_ret
   exact⟨by first|rfl|(simp [errW_none,errW_some] <;> rfl)|(simp [*,errW_none,errW_some] <;> rfl),kB HB.out⟩
 ·rw [if_neg c3] at H
  have c3b0:(a0_0 == a1_0) = false:=beq_eq_false_iff_ne.mpr c3
  have c3b1:(a0_0 != a1_0) = true:=bne_iff_ne.mpr c3
  obtain rfl:=Option.some.inj H
  go_enter Try.func47,Try.ntmps47
  go_wp2_with (first|((with_reducible refine gate_dst (N:=2) rfl ?_);refine box_event ?hg (N:=2) ?hd (cs:=#[.int .i64 a0_0,.slice A0_1 l0_1.length c0_1]) (t:=29) ?hr ?_;(case hd=>rfl);(case hg=>rfl);(case hr=>first|(go_simp;done)|(go_simp;rfl));intro gb294 hg w16 hbox hb;have BK294:=mk0 (hbox);have GW294:=mk0 ((by rw [hg];exact (kZ HB.out):w.heap.size ≤ gb294));have GE294:=mk0 ((by rw [hg];exact (kZ HB.out):w.heap.size ≤ gb294));replace HB:=mk0 (kS HB.out hb);clear hb hbox hg)|((with_reducible refine gate_dst (N:=3) rfl ?_);refine box_event ?hg (N:=3) ?hd (cs:=#[.int .i64 a1_0,.slice A1_1 l1_1.length c1_1]) (t:=29) ?hr ?_;(case hd=>rfl);(case hg=>rfl);(case hr=>first|(go_simp;done)|(go_simp;rfl));intro gb295 hg w17 hbox hb;have BK295:=mk0 (hbox);have GW295:=mk0 ((by rw [hg];exact (kZ HB.out):w.heap.size ≤ gb295));have GE295:=mk0 ((by rw [hg];exact (kZ HB.out):w.heap.size ≤ gb295));replace HB:=mk0 (kS HB.out hb);have NB294_295:=mk0 ((by rw [hg];exact Nat.ne_of_lt (kL BK294.out):gb294 ≠ gb295));have NB295_294:=mk0 ((by rw [hg];exact Nat.ne_of_gt (kL BK294.out):gb295 ≠ gb294));replace BK294:=mk0 (kK BK294.out hb);clear hb hbox hg;have hnb18:=NB294_295.out;have hnc18:=NB295_294.out;obtain⟨hcz19_0,hcz19_1,hfz19_0,hfz19_1⟩:=cz2 BK294.out;obtain⟨hcz20_0,hcz20_1,hfz20_0,hfz20_1⟩:=cz2 BK295.out))
  go_ret
  exact⟨by first|rfl|(simp [errW_none,errW_some] <;> rfl)|(simp [*,errW_none,errW_some] <;> rfl),kB HB.out⟩

/-! ### laws_eqPacked: function 46 -/
def laws_eqPacked.f (k : Nat) (a0_0 : Int) (a0_1 : Int) (a0_2 : Int) (l0_3 : List Int) (a1_0 : Int) (a1_1 : Int) (a1_2 : Int) (l1_3 : List Int) : Option (Bool) := if a0_0 = a1_0 then (if a0_1 = a1_1 then ((laws_eqBits.f k a0_2 l0_3 a1_2 l1_3).bind fun t299 => (if t299 = true then (some true) else (some false))) else (some false)) else (some false)
theorem laws_eqPacked.mono : ∀ a0 a1 a2 a3 a4 a5 a6 a7 k, LeO (laws_eqPacked.f k a0 a1 a2 a3 a4 a5 a6 a7) (laws_eqPacked.f (k + 1) a0 a1 a2 a3 a4 a5 a6 a7) := by
 intro a0 a1 a2 a3 a4 a5 a6 a7 k
 unfold laws_eqPacked.f
 repeat' first|(with_reducible first|exact laws_eqBits.mono _ _ _ _ _|exact LeO.refl _|exact LeO.none _|refine LeO.ite ?_ ?_|refine LeO.bind ?_ (fun _ => ?_))|exact LeO.none _|refine LeO.ite ?_ ?_|refine LeO.bind ?_ (fun _ => ?_)
set_option maxHeartbeats 8000000 in
set_option maxRecDepth 100000 in
theorem laws_eqPacked.calls (k : Nat) (a0_0 : Int) (a0_1 : Int) (a0_2 : Int) (A0_3 : Option Addr) (c0_3 : Nat) (l0_3 : List Int) (a1_0 : Int) (a1_1 : Int) (a1_2 : Int) (A1_3 : Option Addr) (c1_3 : Nat) (l1_3 : List Int) (r : Bool) (w : World) (hr0_3 : Kd.C (Kd.int .u64) w A0_3 l0_3.length l0_3) (hc0_3 : l0_3.length ≤ c0_3) (hr1_3 : Kd.C (Kd.int .u64) w A1_3 l1_3.length l1_3) (hc1_3 : l1_3.length ≤ c1_3) (h : laws_eqPacked.f k a0_0 a0_1 a0_2 l0_3 a1_0 a1_1 a1_2 l1_3 = some r) :
  Calls Try.prog 46 #[.agg #[.int .i64 a0_0, .int .i64 a0_1, .int .i64 a0_2, .slice A0_3 l0_3.length c0_3], .agg #[.int .i64 a1_0, .int .i64 a1_1, .int .i64 a1_2, .slice A1_3 l1_3.length c1_3]] w fun e w' => e = .returned (.bool r) ∧ Below w.heap.size w w' := by
 have hu31:=Try.underlying31
 have hu29:=Try.underlying29
 have HR0_3:=mk0 hr0_3
 have HC0_3:=mk0 hc0_3
 clear hr0_3 hc0_3
 have HR1_3:=mk0 hr1_3
 have HC1_3:=mk0 hc1_3
 clear hr1_3 hc1_3
 have HB:=mk0 (Below.refl w.heap.size w)
 have H:(if a0_0 = a1_0 then (if a0_1 = a1_1 then ((laws_eqBits.f k a0_2 l0_3 a1_2 l1_3).bind fun t299=>(if t299 = true then (some true) else (some false))) else (some false)) else (some false)) = some r:=h
 clear h
 by_cases c3:a0_0 = a1_0
 rotate_left
 ·rw [if_neg c3] at H
  have c3b0:(a0_0 == a1_0) = false:=beq_eq_false_iff_ne.mpr c3
  have c3b1:(a0_0 != a1_0) = true:=bne_iff_ne.mpr c3
  obtain rfl:=Option.some.inj H
  go_enter Try.func46,Try.ntmps46
  go_wp2_with (first|((with_reducible refine gate_dst (N:=2) rfl ?_);refine box_event ?hg (N:=2) ?hd (cs:=#[.int .i64 a0_0,.int .i64 a0_1,.int .i64 a0_2,.slice A0_3 l0_3.length c0_3]) (t:=31) ?hr ?_;(case hd=>rfl);(case hg=>rfl);(case hr=>first|(go_simp;done)|(go_simp;rfl));intro gb297 hg w24 hbox hb;have BK297:=mk0 (hbox);have GW297:=mk0 ((by rw [hg];exact (kZ HB.out):w.heap.size ≤ gb297));have GE297:=mk0 ((by rw [hg];exact (kZ HB.out):w.heap.size ≤ gb297));replace HB:=mk0 (kS HB.out hb);clear hb hbox hg)|((with_reducible refine gate_dst (N:=3) rfl ?_);refine box_event ?hg (N:=3) ?hd (cs:=#[.int .i64 a1_0,.int .i64 a1_1,.int .i64 a1_2,.slice A1_3 l1_3.length c1_3]) (t:=31) ?hr ?_;(case hd=>rfl);(case hg=>rfl);(case hr=>first|(go_simp;done)|(go_simp;rfl));intro gb298 hg w25 hbox hb;have BK298:=mk0 (hbox);have GW298:=mk0 ((by rw [hg];exact (kZ HB.out):w.heap.size ≤ gb298));have GE298:=mk0 ((by rw [hg];exact (kZ HB.out):w.heap.size ≤ gb298));replace HB:=mk0 (kS HB.out hb);have NB297_298:=mk0 ((by rw [hg];exact Nat.ne_of_lt (kL BK297.out):gb297 ≠ gb298));have NB298_297:=mk0 ((by rw [hg];exact Nat.ne_of_gt (kL BK297.out):gb298 ≠ gb297));replace BK297:=mk0 (kK BK297.out hb);clear hb hbox hg;have hnb26:=NB297_298.out;have hnc26:=NB298_297.out;obtain⟨hcz27_0,hcz27_1,hcz27_2,hcz27_3,hfz27_0,hfz27_1,hfz27_2,hfz27_3⟩:=cz4 BK297.out;obtain⟨hcz28_0,hcz28_1,hcz28_2,hcz28_3,hfz28_0,hfz28_1,hfz28_2,hfz28_3⟩:=cz4 BK298.out))
  go_ret
  exact⟨by first|rfl|(simp [errW_none,errW_some] <;> rfl)|(simp [*,errW_none,errW_some] <;> rfl),kB HB.out⟩

 rw [if_pos c3] at H
 have c3b0:(a0_0 == a1_0) = true:=beq_iff_eq.mpr c3
 have c3b1:(a0_0 != a1_0) = false:=bne_eq_false_iff_eq.mpr c3
 clear c3
 by_cases c4:a0_1 = a1_1
 rotate_left
 ·rw [if_neg c4] at H
  have c4b0:(a0_1 == a1_1) = false:=beq_eq_false_iff_ne.mpr c4
  have c4b1:(a0_1 != a1_1) = true:=bne_iff_ne.mpr c4
  obtain rfl:=Option.some.inj H
  go_enter Try.func46,Try.ntmps46
  go_wp2_with (first|((with_reducible refine gate_dst (N:=2) rfl ?_);refine box_event ?hg (N:=2) ?hd (cs:=#[.int .i64 a0_0,.int .i64 a0_1,.int .i64 a0_2,.slice A0_3 l0_3.length c0_3]) (t:=31) ?hr ?_;(case hd=>rfl);(case hg=>rfl);(case hr=>first|(go_simp;done)|(go_simp;rfl));intro gb297 hg w19 hbox hb;have BK297:=mk0 (hbox);have GW297:=mk0 ((by rw [hg];exact (kZ HB.out):w.heap.size ≤ gb297));have GE297:=mk0 ((by rw [hg];exact (kZ HB.out):w.heap.size ≤ gb297));replace HB:=mk0 (kS HB.out hb);clear hb hbox hg)|((with_reducible refine gate_dst (N:=3) rfl ?_);refine box_event ?hg (N:=3) ?hd (cs:=#[.int .i64 a1_0,.int .i64 a1_1,.int .i64 a1_2,.slice A1_3 l1_3.length c1_3]) (t:=31) ?hr ?_;(case hd=>rfl);(case hg=>rfl);(case hr=>first|(go_simp;done)|(go_simp;rfl));intro gb298 hg w20 hbox hb;have BK298:=mk0 (hbox);have GW298:=mk0 ((by rw [hg];exact (kZ HB.out):w.heap.size ≤ gb298));have GE298:=mk0 ((by rw [hg];exact (kZ HB.out):w.heap.size ≤ gb298));replace HB:=mk0 (kS HB.out hb);have NB297_298:=mk0 ((by rw [hg];exact Nat.ne_of_lt (kL BK297.out):gb297 ≠ gb298));have NB298_297:=mk0 ((by rw [hg];exact Nat.ne_of_gt (kL BK297.out):gb298 ≠ gb297));replace BK297:=mk0 (kK BK297.out hb);clear hb hbox hg;have hnb21:=NB297_298.out;have hnc21:=NB298_297.out;obtain⟨hcz22_0,hcz22_1,hcz22_2,hcz22_3,hfz22_0,hfz22_1,hfz22_2,hfz22_3⟩:=cz4 BK297.out;obtain⟨hcz23_0,hcz23_1,hcz23_2,hcz23_3,hfz23_0,hfz23_1,hfz23_2,hfz23_3⟩:=cz4 BK298.out))
  go_ret
  exact⟨by first|rfl|(simp [errW_none,errW_some] <;> rfl)|(simp [*,errW_none,errW_some] <;> rfl),kB HB.out⟩
 rw [if_pos c4] at H
 have c4b0:(a0_1 == a1_1) = true:=beq_iff_eq.mpr c4
 have c4b1:(a0_1 != a1_1) = false:=bne_eq_false_iff_eq.mpr c4
 clear c4
 replace H:=Option.bind_eq_some_iff.mp H
 obtain⟨t299,A50,H⟩:=H
 replace H:(if t299 = true then (some true) else (some false)) = some r:=H
 have A5:=mk0 A50
 clear A50
 by_cases c6:t299 = true
 ·subst c6
  have H1:(some true) = some r:=by rw [if_pos rfl] at H;exact H
  clear H
  have H:=H1
  clear H1
  obtain rfl:=Option.some.inj H
  go_enter Try.func46,Try.ntmps46
  go_wp2_with (first|((with_reducible refine gate_dst (N:=2) rfl ?_);refine box_event ?hg (N:=2) ?hd (cs:=#[.int .i64 a0_0,.int .i64 a0_1,.int .i64 a0_2,.slice A0_3 l0_3.length c0_3]) (t:=31) ?hr ?_;(case hd=>rfl);(case hg=>rfl);(case hr=>first|(go_simp;done)|(go_simp;rfl));intro gb297 hg w7 hbox hb;have BK297:=mk0 (hbox);have GW297:=mk0 ((by rw [hg];exact (kZ HB.out):w.heap.size ≤ gb297));have GE297:=mk0 ((by rw [hg];exact (kZ HB.out):w.heap.size ≤ gb297));replace HB:=mk0 (kS HB.out hb);clear hb hbox hg)|((with_reducible refine gate_dst (N:=3) rfl ?_);refine box_event ?hg (N:=3) ?hd (cs:=#[.int .i64 a1_0,.int .i64 a1_1,.int .i64 a1_2,.slice A1_3 l1_3.length c1_3]) (t:=31) ?hr ?_;(case hd=>rfl);(case hg=>rfl);(case hr=>first|(go_simp;done)|(go_simp;rfl));intro gb298 hg w8 hbox hb;have BK298:=mk0 (hbox);have GW298:=mk0 ((by rw [hg];exact (kZ HB.out):w.heap.size ≤ gb298));have GE298:=mk0 ((by rw [hg];exact (kZ HB.out):w.heap.size ≤ gb298));replace HB:=mk0 (kS HB.out hb);have NB297_298:=mk0 ((by rw [hg];exact Nat.ne_of_lt (kL BK297.out):gb297 ≠ gb298));have NB298_297:=mk0 ((by rw [hg];exact Nat.ne_of_gt (kL BK297.out):gb298 ≠ gb297));replace BK297:=mk0 (kK BK297.out hb);clear hb hbox hg;have hnb9:=NB297_298.out;have hnc9:=NB298_297.out;obtain⟨hcz10_0,hcz10_1,hcz10_2,hcz10_3,hfz10_0,hfz10_1,hfz10_2,hfz10_3⟩:=cz4 BK297.out;obtain⟨hcz11_0,hcz11_1,hcz11_2,hcz11_3,hfz11_0,hfz11_1,hfz11_2,hfz11_3⟩:=cz4 BK298.out)|((with_reducible refine gate_callee (f:=47) rfl ?_);refine goesL_ (some 19) rfl rfl Try.func47 (by kernel_rfl) rfl #[.agg #[.int .i64 a0_2,.slice A0_3 l0_3.length c0_3],.agg #[.int .i64 a1_2,.slice A1_3 l1_3.length c1_3]] rfl (by (try simp only [mA,mC,mN]);first|done|rfl|(simp only [List.length_drop,List.length_take];rfl)) ?_;(with_reducible refine (laws_eqBits.calls k a0_2 _ _ l0_3 a1_2 _ _ l1_3 true _ ?side1 ?side2 ?side3 ?side4 A5.out).mono ?_);(case side1=>exact kC (Kd.C_below HR0_3.out HB.out));(case side2=>exact HC0_3.out);(case side3=>exact kC (Kd.C_below HR1_3.out HB.out));(case side4=>exact HC1_3.out);rintro e w12 ⟨rfl,hb⟩;refine⟨_,rfl,?_⟩;replace BK297:=mk0 (kK BK297.out hb);replace BK298:=mk0 (kK BK298.out hb);replace HB:=mk0 (kS HB.out hb);(try clear hb)))
  go_ret
  exact⟨by first|rfl|(simp [errW_none,errW_some] <;> rfl)|(simp [*,errW_none,errW_some] <;> rfl),kB HB.out⟩
 replace c6:=Bool.eq_false_iff.mpr c6
 subst c6
 have H1:(some false) = some r:=by rw [if_neg (show ¬ (false = true) by decide)] at H;exact H
 clear H
 have H:=H1
 clear H1
 obtain rfl:=Option.some.inj H
 go_enter Try.func46,Try.ntmps46
 go_wp2_with (first|((with_reducible refine gate_dst (N:=2) rfl ?_);refine box_event ?hg (N:=2) ?hd (cs:=#[.int .i64 a0_0,.int .i64 a0_1,.int .i64 a0_2,.slice A0_3 l0_3.length c0_3]) (t:=31) ?hr ?_;(case hd=>rfl);(case hg=>rfl);(case hr=>first|(go_simp;done)|(go_simp;rfl));intro gb297 hg w13 hbox hb;have BK297:=mk0 (hbox);have GW297:=mk0 ((by rw [hg];exact (kZ HB.out):w.heap.size ≤ gb297));have GE297:=mk0 ((by rw [hg];exact (kZ HB.out):w.heap.size ≤ gb297));replace HB:=mk0 (kS HB.out hb);clear hb hbox hg)|((with_reducible refine gate_dst (N:=3) rfl ?_);refine box_event ?hg (N:=3) ?hd (cs:=#[.int .i64 a1_0,.int .i64 a1_1,.int .i64 a1_2,.slice A1_3 l1_3.length c1_3]) (t:=31) ?hr ?_;(case hd=>rfl);(case hg=>rfl);(case hr=>first|(go_simp;done)|(go_simp;rfl));intro gb298 hg w14 hbox hb;have BK298:=mk0 (hbox);have GW298:=mk0 ((by rw [hg];exact (kZ HB.out):w.heap.size ≤ gb298));have GE298:=mk0 ((by rw [hg];exact (kZ HB.out):w.heap.size ≤ gb298));replace HB:=mk0 (kS HB.out hb);have NB297_298:=mk0 ((by rw [hg];exact Nat.ne_of_lt (kL BK297.out):gb297 ≠ gb298));have NB298_297:=mk0 ((by rw [hg];exact Nat.ne_of_gt (kL BK297.out):gb298 ≠ gb297));replace BK297:=mk0 (kK BK297.out hb);clear hb hbox hg;have hnb15:=NB297_298.out;have hnc15:=NB298_297.out;obtain⟨hcz16_0,hcz16_1,hcz16_2,hcz16_3,hfz16_0,hfz16_1,hfz16_2,hfz16_3⟩:=cz4 BK297.out;obtain⟨hcz17_0,hcz17_1,hcz17_2,hcz17_3,hfz17_0,hfz17_1,hfz17_2,hfz17_3⟩:=cz4 BK298.out)|((with_reducible refine gate_callee (f:=47) rfl ?_);refine goesL_ (some 19) rfl rfl Try.func47 (by kernel_rfl) rfl #[.agg #[.int .i64 a0_2,.slice A0_3 l0_3.length c0_3],.agg #[.int .i64 a1_2,.slice A1_3 l1_3.length c1_3]] rfl (by (try simp only [mA,mC,mN]);first|done|rfl|(simp only [List.length_drop,List.length_take];rfl)) ?_;(with_reducible refine (laws_eqBits.calls k a0_2 _ _ l0_3 a1_2 _ _ l1_3 false _ ?side1 ?side2 ?side3 ?side4 A5.out).mono ?_);(case side1=>exact kC (Kd.C_below HR0_3.out HB.out));(case side2=>exact HC0_3.out);(case side3=>exact kC (Kd.C_below HR1_3.out HB.out));(case side4=>exact HC1_3.out);rintro e w18 ⟨rfl,hb⟩;refine⟨_,rfl,?_⟩;replace BK297:=mk0 (kK BK297.out hb);replace BK298:=mk0 (kK BK298.out hb);replace HB:=mk0 (kS HB.out hb);(try clear hb)))
 go_ret
 exact⟨by first|rfl|(simp [errW_none,errW_some] <;> rfl)|(simp [*,errW_none,errW_some] <;> rfl),kB HB.out⟩
/-! ### laws_eqSparse: function 20 -/
def laws_eqSparse.f (k : Nat) (a0_0 : Int) (a0_1 : Int) (a0_2 : Int) (a0_3 : Int) (a0_4 : Int) (l0_5 : List Int) (a0_6 : Int) (l0_7 : List Int) (a1_0 : Int) (a1_1 : Int) (a1_2 : Int) (a1_3 : Int) (a1_4 : Int) (l1_5 : List Int) (a1_6 : Int) (l1_7 : List Int) : Option (Bool) := if a0_0 = a1_0 then (if a0_1 = a1_1 then ((laws_eqPacked.f k a0_2 a0_3 a0_4 l0_5 a1_2 a1_3 a1_4 l1_5).bind fun t302 => (if t302 = true then ((laws_eqBits.f k a0_6 l0_7 a1_6 l1_7).bind fun t303 => (if t303 = true then (some true) else (some false))) else (some false))) else (some false)) else (some false)
theorem laws_eqSparse.mono : ∀ a0 a1 a2 a3 a4 a5 a6 a7 a8 a9 a10 a11 a12 a13 a14 a15 k, LeO (laws_eqSparse.f k a0 a1 a2 a3 a4 a5 a6 a7 a8 a9 a10 a11 a12 a13 a14 a15) (laws_eqSparse.f (k + 1) a0 a1 a2 a3 a4 a5 a6 a7 a8 a9 a10 a11 a12 a13 a14 a15) := by
 intro a0 a1 a2 a3 a4 a5 a6 a7 a8 a9 a10 a11 a12 a13 a14 a15 k
 unfold laws_eqSparse.f
 repeat' first|(with_reducible first|exact laws_eqBits.mono _ _ _ _ _|exact laws_eqPacked.mono _ _ _ _ _ _ _ _ _|exact LeO.refl _|exact LeO.none _|refine LeO.ite ?_ ?_|refine LeO.bind ?_ (fun _ => ?_))|exact LeO.none _|refine LeO.ite ?_ ?_|refine LeO.bind ?_ (fun _ => ?_)
set_option maxHeartbeats 8000000 in
set_option maxRecDepth 100000 in
theorem laws_eqSparse.calls (k : Nat) (a0_0 : Int) (a0_1 : Int) (a0_2 : Int) (a0_3 : Int) (a0_4 : Int) (A0_5 : Option Addr) (c0_5 : Nat) (l0_5 : List Int) (a0_6 : Int) (A0_7 : Option Addr) (c0_7 : Nat) (l0_7 : List Int) (a1_0 : Int) (a1_1 : Int) (a1_2 : Int) (a1_3 : Int) (a1_4 : Int) (A1_5 : Option Addr) (c1_5 : Nat) (l1_5 : List Int) (a1_6 : Int) (A1_7 : Option Addr) (c1_7 : Nat) (l1_7 : List Int) (r : Bool) (w : World) (hr0_5 : Kd.C (Kd.int .u64) w A0_5 l0_5.length l0_5) (hc0_5 : l0_5.length ≤ c0_5) (hr0_7 : Kd.C (Kd.int .u64) w A0_7 l0_7.length l0_7) (hc0_7 : l0_7.length ≤ c0_7) (hr1_5 : Kd.C (Kd.int .u64) w A1_5 l1_5.length l1_5) (hc1_5 : l1_5.length ≤ c1_5) (hr1_7 : Kd.C (Kd.int .u64) w A1_7 l1_7.length l1_7) (hc1_7 : l1_7.length ≤ c1_7) (h : laws_eqSparse.f k a0_0 a0_1 a0_2 a0_3 a0_4 l0_5 a0_6 l0_7 a1_0 a1_1 a1_2 a1_3 a1_4 l1_5 a1_6 l1_7 = some r) :
  Calls Try.prog 20 #[.agg #[.int .i64 a0_0, .int .i64 a0_1, .int .i64 a0_2, .int .i64 a0_3, .int .i64 a0_4, .slice A0_5 l0_5.length c0_5, .int .i64 a0_6, .slice A0_7 l0_7.length c0_7], .agg #[.int .i64 a1_0, .int .i64 a1_1, .int .i64 a1_2, .int .i64 a1_3, .int .i64 a1_4, .slice A1_5 l1_5.length c1_5, .int .i64 a1_6, .slice A1_7 l1_7.length c1_7]] w fun e w' => e = .returned (.bool r) ∧ Below w.heap.size w w' := by
 have hu33:=Try.underlying33
 have hu31:=Try.underlying31
 have hu29:=Try.underlying29
 have HR0_5:=mk0 hr0_5
 have HC0_5:=mk0 hc0_5
 clear hr0_5 hc0_5
 have HR0_7:=mk0 hr0_7
 have HC0_7:=mk0 hc0_7
 clear hr0_7 hc0_7
 have HR1_5:=mk0 hr1_5
 have HC1_5:=mk0 hc1_5
 clear hr1_5 hc1_5
 have HR1_7:=mk0 hr1_7
 have HC1_7:=mk0 hc1_7
 clear hr1_7 hc1_7
 have HB:=mk0 (Below.refl w.heap.size w)
 have H:(if a0_0 = a1_0 then (if a0_1 = a1_1 then ((laws_eqPacked.f k a0_2 a0_3 a0_4 l0_5 a1_2 a1_3 a1_4 l1_5).bind fun t302=>(if t302 = true then ((laws_eqBits.f k a0_6 l0_7 a1_6 l1_7).bind fun t303=>(if t303 = true then (some true) else (some false))) else (some false))) else (some false)) else (some false)) = some r:=h
 clear h
 by_cases c3:a0_0 = a1_0
 rotate_left
 ·rw [if_neg c3] at H
  have c3b0:(a0_0 == a1_0) = false:=beq_eq_false_iff_ne.mpr c3
  have c3b1:(a0_0 != a1_0) = true:=bne_iff_ne.mpr c3
  obtain rfl:=Option.some.inj H
  go_enter Try.func20,Try.ntmps20
  go_wp2_with (first|((with_reducible refine gate_dst (N:=2) rfl ?_);refine box_event ?hg (N:=2) ?hd (cs:=#[.int .i64 a0_0,.int .i64 a0_1,.int .i64 a0_2,.int .i64 a0_3,.int .i64 a0_4,.slice A0_5 l0_5.length c0_5,.int .i64 a0_6,.slice A0_7 l0_7.length c0_7]) (t:=33) ?hr ?_;(case hd=>rfl);(case hg=>rfl);(case hr=>first|(go_simp;done)|(go_simp;rfl));intro gb300 hg w38 hbox hb;have BK300:=mk0 (hbox);have GW300:=mk0 ((by rw [hg];exact (kZ HB.out):w.heap.size ≤ gb300));have GE300:=mk0 ((by rw [hg];exact (kZ HB.out):w.heap.size ≤ gb300));replace HB:=mk0 (kS HB.out hb);clear hb hbox hg)|((with_reducible refine gate_dst (N:=3) rfl ?_);refine box_event ?hg (N:=3) ?hd (cs:=#[.int .i64 a1_0,.int .i64 a1_1,.int .i64 a1_2,.int .i64 a1_3,.int .i64 a1_4,.slice A1_5 l1_5.length c1_5,.int .i64 a1_6,.slice A1_7 l1_7.length c1_7]) (t:=33) ?hr ?_;(case hd=>rfl);(case hg=>rfl);(case hr=>first|(go_simp;done)|(go_simp;rfl));intro gb301 hg w39 hbox hb;have BK301:=mk0 (hbox);have GW301:=mk0 ((by rw [hg];exact (kZ HB.out):w.heap.size ≤ gb301));have GE301:=mk0 ((by rw [hg];exact (kZ HB.out):w.heap.size ≤ gb301));replace HB:=mk0 (kS HB.out hb);have NB300_301:=mk0 ((by rw [hg];exact Nat.ne_of_lt (kL BK300.out):gb300 ≠ gb301));have NB301_300:=mk0 ((by rw [hg];exact Nat.ne_of_gt (kL BK300.out):gb301 ≠ gb300));replace BK300:=mk0 (kK BK300.out hb);clear hb hbox hg;have hnb40:=NB300_301.out;have hnc40:=NB301_300.out;obtain⟨hcz41_0,hcz41_1,hcz41_2,hcz41_3,hcz41_4,hcz41_5,hcz41_6,hcz41_7,hfz41_0,hfz41_1,hfz41_2,hfz41_3,hfz41_4,hfz41_5,hfz41_6,hfz41_7⟩:=cz8 BK300.out;obtain⟨hcz42_0,hcz42_1,hcz42_2,hcz42_3,hcz42_4,hcz42_5,hcz42_6,hcz42_7,hfz42_0,hfz42_1,hfz42_2,hfz42_3,hfz42_4,hfz42_5,hfz42_6,hfz42_7⟩:=cz8 BK301.out))
  go_ret
  exact⟨by first|rfl|(simp [errW_none,errW_some] <;> rfl)|(simp [*,errW_none,errW_some] <;> rfl),kB HB.out⟩

 rw [if_pos c3] at H
 have c3b0:(a0_0 == a1_0) = true:=beq_iff_eq.mpr c3
 have c3b1:(a0_0 != a1_0) = false:=bne_eq_false_iff_eq.mpr c3
 clear c3
 by_cases c4:a0_1 = a1_1
 rotate_left
 ·rw [if_neg c4] at H
  have c4b0:(a0_1 == a1_1) = false:=beq_eq_false_iff_ne.mpr c4
  have c4b1:(a0_1 != a1_1) = true:=bne_iff_ne.mpr c4
  obtain rfl:=Option.some.inj H
  go_enter Try.func20,Try.ntmps20
  go_wp2_with (first|((with_reducible refine gate_dst (N:=2) rfl ?_);refine box_event ?hg (N:=2) ?hd (cs:=#[.int .i64 a0_0,.int .i64 a0_1,.int .i64 a0_2,.int .i64 a0_3,.int .i64 a0_4,.slice A0_5 l0_5.length c0_5,.int .i64 a0_6,.slice A0_7 l0_7.length c0_7]) (t:=33) ?hr ?_;(case hd=>rfl);(case hg=>rfl);(case hr=>first|(go_simp;done)|(go_simp;rfl));intro gb300 hg w33 hbox hb;have BK300:=mk0 (hbox);have GW300:=mk0 ((by rw [hg];exact (kZ HB.out):w.heap.size ≤ gb300));have GE300:=mk0 ((by rw [hg];exact (kZ HB.out):w.heap.size ≤ gb300));replace HB:=mk0 (kS HB.out hb);clear hb hbox hg)|((with_reducible refine gate_dst (N:=3) rfl ?_);refine box_event ?hg (N:=3) ?hd (cs:=#[.int .i64 a1_0,.int .i64 a1_1,.int .i64 a1_2,.int .i64 a1_3,.int .i64 a1_4,.slice A1_5 l1_5.length c1_5,.int .i64 a1_6,.slice A1_7 l1_7.length c1_7]) (t:=33) ?hr ?_;(case hd=>rfl);(case hg=>rfl);(case hr=>first|(go_simp;done)|(go_simp;rfl));intro gb301 hg w34 hbox hb;have BK301:=mk0 (hbox);have GW301:=mk0 ((by rw [hg];exact (kZ HB.out):w.heap.size ≤ gb301));have GE301:=mk0 ((by rw [hg];exact (kZ HB.out):w.heap.size ≤ gb301));replace HB:=mk0 (kS HB.out hb);have NB300_301:=mk0 ((by rw [hg];exact Nat.ne_of_lt (kL BK300.out):gb300 ≠ gb301));have NB301_300:=mk0 ((by rw [hg];exact Nat.ne_of_gt (kL BK300.out):gb301 ≠ gb300));replace BK300:=mk0 (kK BK300.out hb);clear hb hbox hg;have hnb35:=NB300_301.out;have hnc35:=NB301_300.out;obtain⟨hcz36_0,hcz36_1,hcz36_2,hcz36_3,hcz36_4,hcz36_5,hcz36_6,hcz36_7,hfz36_0,hfz36_1,hfz36_2,hfz36_3,hfz36_4,hfz36_5,hfz36_6,hfz36_7⟩:=cz8 BK300.out;obtain⟨hcz37_0,hcz37_1,hcz37_2,hcz37_3,hcz37_4,hcz37_5,hcz37_6,hcz37_7,hfz37_0,hfz37_1,hfz37_2,hfz37_3,hfz37_4,hfz37_5,hfz37_6,hfz37_7⟩:=cz8 BK301.out))
  go_ret
  exact⟨by first|rfl|(simp [errW_none,errW_some] <;> rfl)|(simp [*,errW_none,errW_some] <;> rfl),kB HB.out⟩
 rw [if_pos c4] at H
 have c4b0:(a0_1 == a1_1) = true:=beq_iff_eq.mpr c4
 have c4b1:(a0_1 != a1_1) = false:=bne_eq_false_iff_eq.mpr c4
 clear c4
 replace H:=Option.bind_eq_some_iff.mp H
 obtain⟨t302,A50,H⟩:=H
 replace H:(if t302 = true then ((laws_eqBits.f k a0_6 l0_7 a1_6 l1_7).bind fun t303=>(if t303 = true then (some true) else (some false))) else (some false)) = some r:=H
 have A5:=mk0 A50
 clear A50
 by_cases c6:t302 = true
 rotate_left
 ·replace c6:=Bool.eq_false_iff.mpr c6
  subst c6
  have H1:(some false) = some r:=by rw [if_neg (show ¬ (false = true) by decide)] at H;exact H
  clear H
  have H:=H1
  clear H1
  obtain rfl:=Option.some.inj H
  go_enter Try.func20,Try.ntmps20
  go_wp2_with (first|((with_reducible refine gate_dst (N:=2) rfl ?_);refine box_event ?hg (N:=2) ?hd (cs:=#[.int .i64 a0_0,.int .i64 a0_1,.int .i64 a0_2,.int .i64 a0_3,.int .i64 a0_4,.slice A0_5 l0_5.length c0_5,.int .i64 a0_6,.slice A0_7 l0_7.length c0_7]) (t:=33) ?hr ?_;(case hd=>rfl);(case hg=>rfl);(case hr=>first|(go_simp;done)|(go_simp;rfl));intro gb300 hg w27 hbox hb;have BK300:=mk0 (hbox);have GW300:=mk0 ((by rw [hg];exact (kZ HB.out):w.heap.size ≤ gb300));have GE300:=mk0 ((by rw [hg];exact (kZ HB.out):w.heap.size ≤ gb300));replace HB:=mk0 (kS HB.out hb);clear hb hbox hg)|((with_reducible refine gate_dst (N:=3) rfl ?_);refine box_event ?hg (N:=3) ?hd (cs:=#[.int .i64 a1_0,.int .i64 a1_1,.int .i64 a1_2,.int .i64 a1_3,.int .i64 a1_4,.slice A1_5 l1_5.length c1_5,.int .i64 a1_6,.slice A1_7 l1_7.length c1_7]) (t:=33) ?hr ?_;(case hd=>rfl);(case hg=>rfl);(case hr=>first|(go_simp;done)|(go_simp;rfl));intro gb301 hg w28 hbox hb;have BK301:=mk0 (hbox);have GW301:=mk0 ((by rw [hg];exact (kZ HB.out):w.heap.size ≤ gb301));have GE301:=mk0 ((by rw [hg];exact (kZ HB.out):w.heap.size ≤ gb301));replace HB:=mk0 (kS HB.out hb);have NB300_301:=mk0 ((by rw [hg];exact Nat.ne_of_lt (kL BK300.out):gb300 ≠ gb301));have NB301_300:=mk0 ((by rw [hg];exact Nat.ne_of_gt (kL BK300.out):gb301 ≠ gb300));replace BK300:=mk0 (kK BK300.out hb);clear hb hbox hg;have hnb29:=NB300_301.out;have hnc29:=NB301_300.out;obtain⟨hcz30_0,hcz30_1,hcz30_2,hcz30_3,hcz30_4,hcz30_5,hcz30_6,hcz30_7,hfz30_0,hfz30_1,hfz30_2,hfz30_3,hfz30_4,hfz30_5,hfz30_6,hfz30_7⟩:=cz8 BK300.out;obtain⟨hcz31_0,hcz31_1,hcz31_2,hcz31_3,hcz31_4,hcz31_5,hcz31_6,hcz31_7,hfz31_0,hfz31_1,hfz31_2,hfz31_3,hfz31_4,hfz31_5,hfz31_6,hfz31_7⟩:=cz8 BK301.out)|((with_reducible refine gate_callee (f:=46) rfl ?_);refine goesL_ (some 19) rfl rfl Try.func46 (by kernel_rfl) rfl #[.agg #[.int .i64 a0_2,.int .i64 a0_3,.int .i64 a0_4,.slice A0_5 l0_5.length c0_5],.agg #[.int .i64 a1_2,.int .i64 a1_3,.int .i64 a1_4,.slice A1_5 l1_5.length c1_5]] rfl (by (try simp only [mA,mC,mN]);first|done|rfl|(simp only [List.length_drop,List.length_take];rfl)) ?_;(with_reducible refine (laws_eqPacked.calls k a0_2 a0_3 a0_4 _ _ l0_5 a1_2 a1_3 a1_4 _ _ l1_5 false _ ?side1 ?side2 ?side3 ?side4 A5.out).mono ?_);(case side1=>exact kC (Kd.C_below HR0_5.out HB.out));(case side2=>exact HC0_5.out);(case side3=>exact kC (Kd.C_below HR1_5.out HB.out));(case side4=>exact HC1_5.out);rintro e w32 ⟨rfl,hb⟩;refine⟨_,rfl,?_⟩;replace BK300:=mk0 (kK BK300.out hb);replace BK301:=mk0 (kK BK301.out hb);replace HB:=mk0 (kS HB.out hb);(try clear hb)))
  go_ret
  exact⟨by first|rfl|(simp [errW_none,errW_some] <;> rfl)|(simp [*,errW_none,errW_some] <;> rfl),kB HB.out⟩
 subst c6
 have H1:((laws_eqBits.f k a0_6 l0_7 a1_6 l1_7).bind fun t303=>(if t303 = true then (some true) else (some false))) = some r:=by rw [if_pos rfl] at H;exact H
 clear H
 have H:=H1
 clear H1
 replace H:=Option.bind_eq_some_iff.mp H
 obtain⟨t303,A70,H⟩:=H
 replace H:(if t303 = true then (some true) else (some false)) = some r:=H
 have A7:=mk0 A70
 clear A70
 by_cases c8:t303 = true
 ·subst c8
  have H1:(some true) = some r:=by rw [if_pos rfl] at H;exact H
  clear H
  have H:=H1
  clear H1
  obtain rfl:=Option.some.inj H
  go_enter Try.func20,Try.ntmps20
  go_wp2_with (first|((with_reducible refine gate_dst (N:=2) rfl ?_);refine box_event ?hg (N:=2) ?hd (cs:=#[.int .i64 a0_0,.int .i64 a0_1,.int .i64 a0_2,.int .i64 a0_3,.int .i64 a0_4,.slice A0_5 l0_5.length c0_5,.int .i64 a0_6,.slice A0_7 l0_7.length c0_7]) (t:=33) ?hr ?_;(case hd=>rfl);(case hg=>rfl);(case hr=>first|(go_simp;done)|(go_simp;rfl));intro gb300 hg w9 hbox hb;have BK300:=mk0 (hbox);have GW300:=mk0 ((by rw [hg];exact (kZ HB.out):w.heap.size ≤ gb300));have GE300:=mk0 ((by rw [hg];exact (kZ HB.out):w.heap.size ≤ gb300));replace HB:=mk0 (kS HB.out hb);clear hb hbox hg)|((with_reducible refine gate_dst (N:=3) rfl ?_);refine box_event ?hg (N:=3) ?hd (cs:=#[.int .i64 a1_0,.int .i64 a1_1,.int .i64 a1_2,.int .i64 a1_3,.int .i64 a1_4,.slice A1_5 l1_5.length c1_5,.int .i64 a1_6,.slice A1_7 l1_7.length c1_7]) (t:=33) ?hr ?_;(case hd=>rfl);(case hg=>rfl);(case hr=>first|(go_simp;done)|(go_simp;rfl));intro gb301 hg w10 hbox hb;have BK301:=mk0 (hbox);have GW301:=mk0 ((by rw [hg];exact (kZ HB.out):w.heap.size ≤ gb301));have GE301:=mk0 ((by rw [hg];exact (kZ HB.out):w.heap.size ≤ gb301));replace HB:=mk0 (kS HB.out hb);have NB300_301:=mk0 ((by rw [hg];exact Nat.ne_of_lt (kL BK300.out):gb300 ≠ gb301));have NB301_300:=mk0 ((by rw [hg];exact Nat.ne_of_gt (kL BK300.out):gb301 ≠ gb300));replace BK300:=mk0 (kK BK300.out hb);clear hb hbox hg;have hnb11:=NB300_301.out;have hnc11:=NB301_300.out;obtain⟨hcz12_0,hcz12_1,hcz12_2,hcz12_3,hcz12_4,hcz12_5,hcz12_6,hcz12_7,hfz12_0,hfz12_1,hfz12_2,hfz12_3,hfz12_4,hfz12_5,hfz12_6,hfz12_7⟩:=cz8 BK300.out;obtain⟨hcz13_0,hcz13_1,hcz13_2,hcz13_3,hcz13_4,hcz13_5,hcz13_6,hcz13_7,hfz13_0,hfz13_1,hfz13_2,hfz13_3,hfz13_4,hfz13_5,hfz13_6,hfz13_7⟩:=cz8 BK301.out)|((with_reducible refine gate_callee (f:=46) rfl ?_);refine goesL_ (some 19) rfl rfl Try.func46 (by kernel_rfl) rfl #[.agg #[.int .i64 a0_2,.int .i64 a0_3,.int .i64 a0_4,.slice A0_5 l0_5.length c0_5],.agg #[.int .i64 a1_2,.int .i64 a1_3,.int .i64 a1_4,.slice A1_5 l1_5.length c1_5]] rfl (by (try simp only [mA,mC,mN]);first|done|rfl|(simp only [List.length_drop,List.length_take];rfl)) ?_;(with_reducible refine (laws_eqPacked.calls k a0_2 a0_3 a0_4 _ _ l0_5 a1_2 a1_3 a1_4 _ _ l1_5 true _ ?side1 ?side2 ?side3 ?side4 A5.out).mono ?_);(case side1=>exact kC (Kd.C_below HR0_5.out HB.out));(case side2=>exact HC0_5.out);(case side3=>exact kC (Kd.C_below HR1_5.out HB.out));(case side4=>exact HC1_5.out);rintro e w14 ⟨rfl,hb⟩;refine⟨_,rfl,?_⟩;replace BK300:=mk0 (kK BK300.out hb);replace BK301:=mk0 (kK BK301.out hb);replace HB:=mk0 (kS HB.out hb);(try clear hb);obtain⟨hcz15_0,hcz15_1,hcz15_2,hcz15_3,hcz15_4,hcz15_5,hcz15_6,hcz15_7,hfz15_0,hfz15_1,hfz15_2,hfz15_3,hfz15_4,hfz15_5,hfz15_6,hfz15_7⟩:=cz8 BK300.out;obtain⟨hcz16_0,hcz16_1,hcz16_2,hcz16_3,hcz16_4,hcz16_5,hcz16_6,hcz16_7,hfz16_0,hfz16_1,hfz16_2,hfz16_3,hfz16_4,hfz16_5,hfz16_6,hfz16_7⟩:=cz8 BK301.out)|((with_reducible refine gate_callee (f:=47) rfl ?_);refine goesL_ (some 25) rfl rfl Try.func47 (by kernel_rfl) rfl #[.agg #[.int .i64 a0_6,.slice A0_7 l0_7.length c0_7],.agg #[.int .i64 a1_6,.slice A1_7 l1_7.length c1_7]] rfl (by (try simp only [mA,mC,mN]);first|done|rfl|(simp only [List.length_drop,List.length_take];rfl)) ?_;(with_reducible refine (laws_eqBits.calls k a0_6 _ _ l0_7 a1_6 _ _ l1_7 true _ ?side1 ?side2 ?side3 ?side4 A7.out).mono ?_);(case side1=>exact kC (Kd.C_below HR0_7.out HB.out));(case side2=>exact HC0_7.out);(case side3=>exact kC (Kd.C_below HR1_7.out HB.out));(case side4=>exact HC1_7.out);rintro e w17 ⟨rfl,hb⟩;refine⟨_,rfl,?_⟩;replace BK300:=mk0 (kK BK300.out hb);replace BK301:=mk0 (kK BK301.out hb);replace HB:=mk0 (kS HB.out hb);(try clear hb)))
  go_ret
  exact⟨by first|rfl|(simp [errW_none,errW_some] <;> rfl)|(simp [*,errW_none,errW_some] <;> rfl),kB HB.out⟩
 replace c8:=Bool.eq_false_iff.mpr c8
 subst c8
 have H1:(some false) = some r:=by rw [if_neg (show ¬ (false = true) by decide)] at H;exact H
 clear H
 have H:=H1
 clear H1
 obtain rfl:=Option.some.inj H
 go_enter Try.func20,Try.ntmps20
 go_wp2_with (first|((with_reducible refine gate_dst (N:=2) rfl ?_);refine box_event ?hg (N:=2) ?hd (cs:=#[.int .i64 a0_0,.int .i64 a0_1,.int .i64 a0_2,.int .i64 a0_3,.int .i64 a0_4,.slice A0_5 l0_5.length c0_5,.int .i64 a0_6,.slice A0_7 l0_7.length c0_7]) (t:=33) ?hr ?_;(case hd=>rfl);(case hg=>rfl);(case hr=>first|(go_simp;done)|(go_simp;rfl));intro gb300 hg w18 hbox hb;have BK300:=mk0 (hbox);have GW300:=mk0 ((by rw [hg];exact (kZ HB.out):w.heap.size ≤ gb300));have GE300:=mk0 ((by rw [hg];exact (kZ HB.out):w.heap.size ≤ gb300));replace HB:=mk0 (kS HB.out hb);clear hb hbox hg)|((with_reducible refine gate_dst (N:=3) rfl ?_);refine box_event ?hg (N:=3) ?hd (cs:=#[.int .i64 a1_0,.int .i64 a1_1,.int .i64 a1_2,.int .i64 a1_3,.int .i64 a1_4,.slice A1_5 l1_5.length c1_5,.int .i64 a1_6,.slice A1_7 l1_7.length c1_7]) (t:=33) ?hr ?_;(case hd=>rfl);(case hg=>rfl);(case hr=>first|(go_simp;done)|(go_simp;rfl));intro gb301 hg w19 hbox hb;have BK301:=mk0 (hbox);have GW301:=mk0 ((by rw [hg];exact (kZ HB.out):w.heap.size ≤ gb301));have GE301:=mk0 ((by rw [hg];exact (kZ HB.out):w.heap.size ≤ gb301));replace HB:=mk0 (kS HB.out hb);have NB300_301:=mk0 ((by rw [hg];exact Nat.ne_of_lt (kL BK300.out):gb300 ≠ gb301));have NB301_300:=mk0 ((by rw [hg];exact Nat.ne_of_gt (kL BK300.out):gb301 ≠ gb300));replace BK300:=mk0 (kK BK300.out hb);clear hb hbox hg;have hnb20:=NB300_301.out;have hnc20:=NB301_300.out;obtain⟨hcz21_0,hcz21_1,hcz21_2,hcz21_3,hcz21_4,hcz21_5,hcz21_6,hcz21_7,hfz21_0,hfz21_1,hfz21_2,hfz21_3,hfz21_4,hfz21_5,hfz21_6,hfz21_7⟩:=cz8 BK300.out;obtain⟨hcz22_0,hcz22_1,hcz22_2,hcz22_3,hcz22_4,hcz22_5,hcz22_6,hcz22_7,hfz22_0,hfz22_1,hfz22_2,hfz22_3,hfz22_4,hfz22_5,hfz22_6,hfz22_7⟩:=cz8 BK301.out)|((with_reducible refine gate_callee (f:=46) rfl ?_);refine goesL_ (some 19) rfl rfl Try.func46 (by kernel_rfl) rfl #[.agg #[.int .i64 a0_2,.int .i64 a0_3,.int .i64 a0_4,.slice A0_5 l0_5.length c0_5],.agg #[.int .i64 a1_2,.int .i64 a1_3,.int .i64 a1_4,.slice A1_5 l1_5.length c1_5]] rfl (by (try simp only [mA,mC,mN]);first|done|rfl|(simp only [List.length_drop,List.length_take];rfl)) ?_;(with_reducible refine (laws_eqPacked.calls k a0_2 a0_3 a0_4 _ _ l0_5 a1_2 a1_3 a1_4 _ _ l1_5 true _ ?side1 ?side2 ?side3 ?side4 A5.out).mono ?_);(case side1=>exact kC (Kd.C_below HR0_5.out HB.out));(case side2=>exact HC0_5.out);(case side3=>exact kC (Kd.C_below HR1_5.out HB.out));(case side4=>exact HC1_5.out);rintro e w23 ⟨rfl,hb⟩;refine⟨_,rfl,?_⟩;replace BK300:=mk0 (kK BK300.out hb);replace BK301:=mk0 (kK BK301.out hb);replace HB:=mk0 (kS HB.out hb);(try clear hb);obtain⟨hcz24_0,hcz24_1,hcz24_2,hcz24_3,hcz24_4,hcz24_5,hcz24_6,hcz24_7,hfz24_0,hfz24_1,hfz24_2,hfz24_3,hfz24_4,hfz24_5,hfz24_6,hfz24_7⟩:=cz8 BK300.out;obtain⟨hcz25_0,hcz25_1,hcz25_2,hcz25_3,hcz25_4,hcz25_5,hcz25_6,hcz25_7,hfz25_0,hfz25_1,hfz25_2,hfz25_3,hfz25_4,hfz25_5,hfz25_6,hfz25_7⟩:=cz8 BK301.out)|((with_reducible refine gate_callee (f:=47) rfl ?_);refine goesL_ (some 25) rfl rfl Try.func47 (by kernel_rfl) rfl #[.agg #[.int .i64 a0_6,.slice A0_7 l0_7.length c0_7],.agg #[.int .i64 a1_6,.slice A1_7 l1_7.length c1_7]] rfl (by (try simp only [mA,mC,mN]);first|done|rfl|(simp only [List.length_drop,List.length_take];rfl)) ?_;(with_reducible refine (laws_eqBits.calls k a0_6 _ _ l0_7 a1_6 _ _ l1_7 false _ ?side1 ?side2 ?side3 ?side4 A7.out).mono ?_);(case side1=>exact kC (Kd.C_below HR0_7.out HB.out));(case side2=>exact HC0_7.out);(case side3=>exact kC (Kd.C_below HR1_7.out HB.out));(case side4=>exact HC1_7.out);rintro e w26 ⟨rfl,hb⟩;refine⟨_,rfl,?_⟩;replace BK300:=mk0 (kK BK300.out hb);replace BK301:=mk0 (kK BK301.out hb);replace HB:=mk0 (kS HB.out hb);(try clear hb)))
 go_ret
 exact⟨by first|rfl|(simp [errW_none,errW_some] <;> rfl)|(simp [*,errW_none,errW_some] <;> rfl),kB HB.out⟩
/-! ### spec_l02Pow: function 27 -/
def spec_l02Pow.l0 : Nat → Int → Int → Option (Int)
 | 0, _, _ => none
 | k + 1, x0, x3 => if x0 > 0 then (spec_l02Pow.l0 k (wrap64 (x0 - 1)) (wrap64 (2 * x3))) else (some x3)
def spec_l02Pow.f (k : Nat) (a0 : Int) : Option (Int) := spec_l02Pow.l0 k a0 1
theorem spec_l02Pow.mono_l : ∀ k, (∀ y0 y1, LeO (spec_l02Pow.l0 k y0 y1) (spec_l02Pow.l0 (k + 1) y0 y1))
 | 0 => fun _ _ r h => by simp [spec_l02Pow.l0] at h
 | k + 1 => by
  have ih0 := spec_l02Pow.mono_l k
  ·intro y0 y1
   unfold spec_l02Pow.l0
   repeat' first|(with_reducible first|exact ih0 _ _|exact LeO.refl _|exact LeO.none _|refine LeO.ite ?_ ?_|refine LeO.bind ?_ (fun _ => ?_))|exact LeO.none _|refine LeO.ite ?_ ?_|refine LeO.bind ?_ (fun _ => ?_)
theorem spec_l02Pow.mono : ∀ a0 k, LeO (spec_l02Pow.f k a0) (spec_l02Pow.f (k + 1) a0) := by
 intro a0 k
 have ih0 := spec_l02Pow.mono_l k
 unfold spec_l02Pow.f
 repeat' first|(with_reducible first|exact ih0 _ _|exact LeO.refl _|exact LeO.none _|refine LeO.ite ?_ ?_|refine LeO.bind ?_ (fun _ => ?_))|exact LeO.none _|refine LeO.ite ?_ ?_|refine LeO.bind ?_ (fun _ => ?_)
set_option maxHeartbeats 8000000 in
set_option maxRecDepth 100000 in
theorem spec_l02Pow.calls (k : Nat) (a0 : Int) (r : Int) (w : World) (h : spec_l02Pow.f k a0 = some r) :
  Calls Try.prog 27 #[.int .i64 a0] w fun e w' => e = .returned (.int .i64 r) ∧ Drawn0 w w' := by
 have H:(spec_l02Pow.l0 k a0 1) = some r:=h
 clear h
 have H':=mk0 H
 clear H
 go_enter Try.func27,Try.ntmps27
 go_wp2
 go_loopg [0,3] k (fun kq v0 v3 w'=>∃ (x0_1:Int) (x3_1:Int),v0 = .int .i64 x0_1 ∧ v3 = .int .i64 x3_1 ∧ Aside0 (spec_l02Pow.l0 kq x0_1 x3_1 = some r) ∧ Aside0 (kq ≤ k) ∧ Drawn0 w w')
 case atStart=>exact⟨(a0),(1),(by first|rfl|(simp;done)|(simp [*];done)),(by first|rfl|(simp;done)|(simp [*];done)),H',⟨Nat.le_refl _⟩,by repeat (first|exact Drawn0.refl _|apply Drawn0.step)⟩
 case round =>
  clear H'
  obtain⟨x0_1,x3_1,rfl,rfl,HA,HK1,⟨m1,rfl⟩⟩:=hrel
  cases gk with
  | zero=>exact absurd HA.out (by simp [spec_l02Pow.l0])
  | succ k1 =>
   have H:=HA.out
   clear HA
   simp only [spec_l02Pow.l0] at H
   by_cases c2:x0_1 > 0
   ·rw [if_pos c2] at H
    have c2b0:decide (0 < x0_1) = true:=decide_eq_true c2
    clear c2
    have H':=mk0 H
    clear H
    go_wp2
    go_roundg k1
    case measure=>have:=HK1.out;omega
    case rel=>exact⟨(wrap64 (x0_1 - 1)),(wrap64 (2 * x3_1)),(by first|rfl|(simp;done)|(simp [*];done)),(by first|rfl|(simp;done)|(simp [*];done)),H',⟨by have:=HK1.out;omega⟩,by repeat (first|exact Drawn0.refl _|apply Drawn0.step)⟩
   ·rw [if_neg c2] at H
    have c2b0:decide (0 < x0_1) = false:=decide_eq_false c2
    clear c2
    obtain rfl:=Option.some.inj H
    go_wp2
    go_ret
    exact⟨by first|rfl|(simp;done)|(simp [*];done),by repeat (first|exact Drawn0.refl _|apply Drawn0.step)⟩

/-! ### spec_WidthOf: function 52 -/
def spec_WidthOf.l0 : Nat → Int → Int → Option (Int)
 | 0, _, _ => none
 | k + 1, x0, x3 => if x0 > 0 then (spec_WidthOf.l0 k (wrap64 (Int.tdiv x0 2)) (wrap64 (x3 + 1))) else (some x3)
def spec_WidthOf.f (k : Nat) (a0 : Int) : Option (Int) := if a0 < 0 then (some (-1)) else (spec_WidthOf.l0 k a0 0)
theorem spec_WidthOf.mono_l : ∀ k, (∀ y0 y1, LeO (spec_WidthOf.l0 k y0 y1) (spec_WidthOf.l0 (k + 1) y0 y1))
 | 0 => fun _ _ r h => by simp [spec_WidthOf.l0] at h
 | k + 1 => by
  have ih0 := spec_WidthOf.mono_l k
  ·intro y0 y1
   unfold spec_WidthOf.l0
   repeat' first|(with_reducible first|exact ih0 _ _|exact LeO.refl _|exact LeO.none _|refine LeO.ite ?_ ?_|refine LeO.bind ?_ (fun _ => ?_))|exact LeO.none _|refine LeO.ite ?_ ?_|refine LeO.bind ?_ (fun _ => ?_)
theorem spec_WidthOf.mono : ∀ a0 k, LeO (spec_WidthOf.f k a0) (spec_WidthOf.f (k + 1) a0) := by
 intro a0 k
 have ih0 := spec_WidthOf.mono_l k
 unfold spec_WidthOf.f
 repeat' first|(with_reducible first|exact ih0 _ _|exact LeO.refl _|exact LeO.none _|refine LeO.ite ?_ ?_|refine LeO.bind ?_ (fun _ => ?_))|exact LeO.none _|refine LeO.ite ?_ ?_|refine LeO.bind ?_ (fun _ => ?_)
set_option maxHeartbeats 8000000 in
set_option maxRecDepth 100000 in
theorem spec_WidthOf.calls (k : Nat) (a0 : Int) (r : Int) (w : World) (h : spec_WidthOf.f k a0 = some r) :
  Calls Try.prog 52 #[.int .i64 a0] w fun e w' => e = .returned (.int .i64 r) ∧ Drawn0 w w' := by
 have H:(if a0 < 0 then (some (-1)) else (spec_WidthOf.l0 k a0 0)) = some r:=h
 clear h
 by_cases c2:a0 < 0
 ·rw [if_pos c2] at H
  have c2b0:decide (a0 < 0) = true:=decide_eq_true c2
  clear c2
  obtain rfl:=Option.some.inj H
  go_enter Try.func52,Try.ntmps52
  go_wp2
  go_ret
  exact⟨by first|rfl|(simp;done)|(simp [*];done),by repeat (first|exact Drawn0.refl _|apply Drawn0.step)⟩
 ·rw [if_neg c2] at H
  have c2b0:decide (a0 < 0) = false:=decide_eq_false c2
  clear c2
  have H':=mk0 H
  clear H
  go_enter Try.func52,Try.ntmps52
  go_wp2
  go_loopg [0,3] k (fun kq v0 v3 w'=>∃ (x0_1:Int) (x3_1:Int),v0 = .int .i64 x0_1 ∧ v3 = .int .i64 x3_1 ∧ Aside0 (spec_WidthOf.l0 kq x0_1 x3_1 = some r) ∧ Aside0 (kq ≤ k) ∧ Drawn0 w w')
  case atStart=>exact⟨(a0),(0),(by first|rfl|(simp;done)|(simp [*];done)),(by first|rfl|(simp;done)|(simp [*];done)),H',⟨Nat.le_refl _⟩,by repeat (first|exact Drawn0.refl _|apply Drawn0.step)⟩
  case round =>
   clear H'
   try clear c2
   try clear c2b0
   try clear p2
   obtain⟨x0_1,x3_1,rfl,rfl,HA,HK1,⟨m1,rfl⟩⟩:=hrel
   cases gk with
   | zero=>exact absurd HA.out (by simp [spec_WidthOf.l0])
   | succ k1 =>
    have H:=HA.out
    clear HA
    simp only [spec_WidthOf.l0] at H
    by_cases c3:x0_1 > 0
    ·rw [if_pos c3] at H
     have c3b0:decide (0 < x0_1) = true:=decide_eq_true c3
     clear c3
     have H':=mk0 H
     clear H
     go_wp2
     go_roundg k1
     case measure=>have:=HK1.out;omega
     case rel=>exact⟨(wrap64 (Int.tdiv x0_1 2)),(wrap64 (x3_1 + 1)),(by first|rfl|(simp;done)|(simp [*];done)),(by first|rfl|(simp;done)|(simp [*];done)),H',⟨by have:=HK1.out;omega⟩,by repeat (first|exact Drawn0.refl _|apply Drawn0.step)⟩
    ·rw [if_neg c3] at H
     have c3b0:decide (0 < x0_1) = false:=decide_eq_false c3
     clear c3
     obtain rfl:=Option.some.inj H
     go_wp2
     go_ret
     exact⟨by first|rfl|(simp;done)|(simp [*];done),by repeat (first|exact Drawn0.refl _|apply Drawn0.step)⟩

/-! ### spec_l03Width: function 28 -/
def spec_l03Width.f (k : Nat) (a0 : Int) (a1 : Int) : Option (Int) := if a0 = 0 then (some 0) else ((spec_WidthOf.f k (wrap64 (Int.tdiv a1 a0))).bind fun t304 => (some (mx 0 (wrap64 (t304 - 1)))))
theorem spec_l03Width.mono : ∀ a0 a1 k, LeO (spec_l03Width.f k a0 a1) (spec_l03Width.f (k + 1) a0 a1) := by
 intro a0 a1 k
 unfold spec_l03Width.f
 repeat' first|(with_reducible first|exact spec_WidthOf.mono _ _|exact LeO.refl _|exact LeO.none _|refine LeO.ite ?_ ?_|refine LeO.bind ?_ (fun _ => ?_))|exact LeO.none _|refine LeO.ite ?_ ?_|refine LeO.bind ?_ (fun _ => ?_)
set_option maxHeartbeats 8000000 in
set_option maxRecDepth 100000 in
theorem spec_l03Width.calls (k : Nat) (a0 : Int) (a1 : Int) (r : Int) (w : World) (h : spec_l03Width.f k a0 a1 = some r) :
  Calls Try.prog 28 #[.int .i64 a0, .int .i64 a1] w fun e w' => e = .returned (.int .i64 r) ∧ Below w.heap.size w w' := by
 have HB:=mk0 (Below.refl w.heap.size w)
 have H:(if a0 = 0 then (some 0) else ((spec_WidthOf.f k (wrap64 (Int.tdiv a1 a0))).bind fun t304=>(some (mx 0 (wrap64 (t304 - 1)))))) = some r:=h
 clear h
 by_cases c3:a0 = 0
 ·rw [if_pos c3] at H
  have c3b0:(a0 == 0) = true:=beq_iff_eq.mpr c3
  have c3b1:(a0 != 0) = false:=bne_eq_false_iff_eq.mpr c3
  clear c3
  obtain rfl:=Option.some.inj H
  go_enter Try.func28,Try.ntmps28
  go_wp2
  go_ret
  exact⟨by first|rfl|(simp [errW_none,errW_some] <;> rfl)|(simp [*,errW_none,errW_some] <;> rfl),kB HB.out⟩
 ·rw [if_neg c3] at H
  have c3b0:(a0 == 0) = false:=beq_eq_false_iff_ne.mpr c3
  have c3b1:(a0 != 0) = true:=bne_iff_ne.mpr c3
  replace H:=Option.bind_eq_some_iff.mp H
  obtain⟨t304,A40,H⟩:=H
  replace H:(some (mx 0 (wrap64 (t304 - 1)))) = some r:=H
  have A4:=mk0 A40
  clear A40
  obtain⟨ji5,hji5⟩:∃ j_:Int,(mx 0 (wrap64 (t304 - 1))) = j_:=⟨_,rfl⟩
  replace H:(some ji5) = some r:=by first|(rw [hji5] at H;exact H)|(simp only [hji5] at H ⊢;exact H)
  (try rw [hji5] at A4)
  (try (have hji5l:0 ≤ ji5:=by (rw [← hji5];unfold mx;(repeat' split) <;> omega)))
  (try (have hji5m:0 ≤ ji5:=by omega))
  have hji5_:(if 0 < (wrap64 (t304 - 1)) then (wrap64 (t304 - 1)) else 0) = ji5:=hji5
  obtain rfl:=Option.some.inj H
  go_enter Try.func28,Try.ntmps28
  go_wp2_with (first|((with_reducible refine gate_callee (f:=52) rfl ?_);refine goesL_ (some 10) rfl rfl Try.func52 (by kernel_rfl) rfl #[.int .i64 (wrap64 (Int.tdiv a1 a0))] rfl (by (try simp only [mA,mC,mN]);first|done|rfl|(simp only [List.length_drop,List.length_take];rfl)) ?_;(with_reducible refine (spec_WidthOf.calls k (wrap64 (Int.tdiv a1 a0)) t304 _ A4.out).mono ?_);rintro e w' ⟨rfl,⟨nd,rfl⟩⟩;refine⟨_,rfl,?_⟩))
  go_ret
  exact⟨by first|rfl|(simp [errW_none,errW_some] <;> rfl)|(simp only [← hji5];first|rfl|(simp [errW_none,errW_some] <;> rfl))|(simp [*,errW_none,errW_some] <;> rfl),kB HB.out⟩

end Go.Proofs.Ytmohfjfgpeapfaa.QFnExactSparseRank
