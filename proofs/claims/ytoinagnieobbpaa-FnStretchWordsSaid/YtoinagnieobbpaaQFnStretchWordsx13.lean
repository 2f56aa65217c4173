-- A walk, made by walk.py, a program of this session's.
import Derived.Test.YtoinagnieobbpaaQFnStretchWordsx0
import Derived.Test.YtoinagnieobbpaaQFnStretchWordsx9
import Derived.Test.YtoinagnieobbpaaQFnStretchWordsx12
namespace Go.Proofs.Ytoinagnieobbpaa.QFnStretchWords
open Go.RowKit Go.Proofs.YtoinagnieobbpaaW.PrintWords Go.Proofs.YtoinagnieobbpaaW.PrintLast Go.Proofs.YtoinagnieobbpaaW.PrintMore
attribute [local go_sem] max2_int min2_int max_two min_two max_three min_three max_four min_four   -- for this text's walks alone
set_option linter.unusedVariables false
set_option linter.unusedSimpArgs false

/-! ### spec_l01Cur_stretch: function 61 -/
def spec_l01Cur_stretch.j0 : Nat → List (S27) → Bool → List Int → Int → Int → Int → Int → Int → Option (Int × Int × Int × Int × Int)
 | 0, _, _, _, _, _, _, _, _ => none
 | k + 1, x5, x23, x1000, x1001, x1002, x391000, x391001, x391002 => if x23 = true then ((spec_l01Cur_pick.f x1000 x1001 x1002 (mn 256 (x5.length : Int))).bind fun bt394 => (if 0 ≤ bt394.1 then (if bt394.1 < (x5.length : Int) then ((spec_l01Cur_pick.f x1000 bt394.2.1 bt394.2.2 9).bind fun bt398 => (if bt398.1 = 0 then ((spec_l01Cur_raw.f x1000 bt398.2.1 bt398.2.2).bind fun bt401 => ((some (([bt401.1, wrap64 (((rd_T27 x5 bt394.1).f2) + 1)] : List Int) : List Int)).bind fun y404 => ((spec_l01Cur_pick.f x1000 bt401.2.1 bt401.2.2 2).bind fun bt407 => (if 0 ≤ bt407.1 then (if bt407.1 < (y404.length : Int) then (some ((rd_T27 x5 bt394.1).f0, (rd_T27 x5 bt394.1).f1, rd y404 bt407.1, bt407.2.1, bt407.2.2)) else (none)) else (none))))) else (if bt398.1 = 1 then ((spec_l01Cur_raw.f x1000 bt398.2.1 bt398.2.2).bind fun bt411 => ((some (([bt411.1, wrap64 (((rd_T27 x5 bt394.1).f1) - 1)] : List Int) : List Int)).bind fun y414 => ((spec_l01Cur_pick.f x1000 bt411.2.1 bt411.2.2 2).bind fun bt417 => (if 0 ≤ bt417.1 then (if bt417.1 < (y414.length : Int) then (some ((rd_T27 x5 bt394.1).f0, rd y414 bt417.1, (rd_T27 x5 bt394.1).f2, bt417.2.1, bt417.2.2)) else (none)) else (none))))) else (if bt398.1 = 2 then ((spec_l01Cur_raw.f x1000 bt398.2.1 bt398.2.2).bind fun bt421 => (some (bt421.1, (rd_T27 x5 bt394.1).f1, (rd_T27 x5 bt394.1).f2, bt421.2.1, bt421.2.2))) else (some ((rd_T27 x5 bt394.1).f0, (rd_T27 x5 bt394.1).f1, (rd_T27 x5 bt394.1).f2, bt398.2.1, bt398.2.2)))))) else (none)) else (none))) else (some (x391000, x391001, x391002, x1001, x1002))
def spec_l01Cur_stretch.f (k : Nat) (s0_0 : List Int) (s0_1 : Int) (s0_2 : Int) (l1 : List Int) : Option (Int × Int × Int × Int × Int) := (spec_StretchAll.f k l1).bind fun t378 => ((spec_l01Cur_pick.f s0_0 s0_1 s0_2 6).bind fun bt381 => ((spec_l01Cur_pick.f s0_0 bt381.2.1 bt381.2.2 9).bind fun bt384 => ((spec_l01Cur_pick.f s0_0 bt384.2.1 bt384.2.2 4).bind fun bt387 => (if (t378.length : Int) > 0 then ((spec_l01Cur_once.f s0_0 bt387.2.1 bt387.2.2 6).bind fun bt391 => (spec_l01Cur_stretch.j0 k t378 (!bt391.1) s0_0 bt391.2.1 bt391.2.2 bt381.1 bt384.1 bt387.1)) else (spec_l01Cur_stretch.j0 k t378 false s0_0 bt387.2.1 bt387.2.2 bt381.1 bt384.1 bt387.1)))))
theorem spec_l01Cur_stretch.mono_l : ∀ k, (∀ y0 y1 y2 y3 y4 y5 y6 y7, LeO (spec_l01Cur_stretch.j0 k y0 y1 y2 y3 y4 y5 y6 y7) (spec_l01Cur_stretch.j0 (k + 1) y0 y1 y2 y3 y4 y5 y6 y7))
 | 0 => fun _ _ _ _ _ _ _ _ r h => by simp [spec_l01Cur_stretch.j0] at h
 | k + 1 => by
  have ih0 := spec_l01Cur_stretch.mono_l k
  ·intro y0 y1 y2 y3 y4 y5 y6 y7
   unfold spec_l01Cur_stretch.j0
   repeat' first|(with_reducible first|exact ih0 _ _ _ _ _ _ _ _|exact spec_StretchAll.mono _ _|exact LeO.refl _|exact LeO.none _|refine LeO.ite ?_ ?_|refine LeO.bind ?_ (fun _ => ?_))|exact LeO.none _|refine LeO.ite ?_ ?_|refine LeO.bind ?_ (fun _ => ?_)
theorem spec_l01Cur_stretch.mono : ∀ a0 a1 a2 a3 k, LeO (spec_l01Cur_stretch.f k a0 a1 a2 a3) (spec_l01Cur_stretch.f (k + 1) a0 a1 a2 a3) := by
 intro a0 a1 a2 a3 k
 have ih0 := spec_l01Cur_stretch.mono_l k
 unfold spec_l01Cur_stretch.f
 repeat' first|(with_reducible first|exact ih0 _ _ _ _ _ _ _ _|exact spec_StretchAll.mono _ _|exact LeO.refl _|exact LeO.none _|refine LeO.ite ?_ ?_|refine LeO.bind ?_ (fun _ => ?_))|exact LeO.none _|refine LeO.ite ?_ ?_|refine LeO.bind ?_ (fun _ => ?_)
def spec_l01Cur_stretch.T7 : Bool × List (List Nat × List Nat) := (true, [([], []), ([0], [0]), ([], []), ([2], [2]), ([3], [3]), ([1, 4], [1, 4]), ([], []), ([6, 1], [6]), ([5, 7], [5, 7]), ([8], [8]), ([0, 1, 2, 3, 4, 5, 6, 7, 8, 9], []), ([10, 9, 7, 0, 1, 2, 3, 4, 5, 6, 7, 8, 9], [9, 10])])
def spec_l01Cur_stretch.B7 : List Nat := [0, 1, 0, 4, 12, 31, 0, 67, 255, 511, 1023, 2047]
theorem spec_l01Cur_stretch.tab7 : rtab .any (opsOf Try.f61 7) = spec_l01Cur_stretch.T7 := by kernel_rfl
theorem spec_l01Cur_stretch.bits7 : waitsOk spec_l01Cur_stretch.T7.2 spec_l01Cur_stretch.B7 = true := by kernel_rfl
def spec_l01Cur_stretch.T9 : Bool × List (List Nat × List Nat) := (true, [([], []), ([0], [0]), ([], []), ([2], [2]), ([3], [3]), ([1, 4], [1, 4]), ([], []), ([6, 1], [6]), ([5, 7], [5, 7]), ([8], [8]), ([0, 1, 2, 3, 4, 5, 6, 7, 8, 9], []), ([10, 9, 7, 0, 1, 2, 3, 4, 5, 6, 7, 8, 9], [9, 10])])
def spec_l01Cur_stretch.B9 : List Nat := [0, 1, 0, 4, 12, 31, 0, 67, 255, 511, 1023, 2047]
theorem spec_l01Cur_stretch.tab9 : rtab .any (opsOf Try.f61 9) = spec_l01Cur_stretch.T9 := by kernel_rfl
theorem spec_l01Cur_stretch.bits9 : waitsOk spec_l01Cur_stretch.T9.2 spec_l01Cur_stretch.B9 = true := by kernel_rfl
abbrev spec_l01Cur_stretch.m0 : Array Bool := #[F,F,F,F,F,F,F,F,F,F,F,F]
abbrev spec_l01Cur_stretch.m1 : Array Bool := #[T,F,F,F,F,F,F,F,F,F,F,F]
abbrev spec_l01Cur_stretch.m2 : Array Bool := #[T,F,T,F,F,F,F,F,F,F,F,F]
abbrev spec_l01Cur_stretch.m3 : Array Bool := #[T,F,T,F,F,F,T,F,F,F,F,F]
abbrev spec_l01Cur_stretch.m4 : Array Bool := #[T,F,T,T,F,F,T,F,F,F,F,F]
abbrev spec_l01Cur_stretch.m5 : Array Bool := #[T,F,T,T,T,F,T,F,F,F,F,F]
abbrev spec_l01Cur_stretch.m6 : Array Bool := #[T,T,T,T,T,F,T,F,F,F,F,F]
abbrev spec_l01Cur_stretch.m7 : Array Bool := #[T,T,T,T,T,T,T,T,F,F,F,F]
abbrev spec_l01Cur_stretch.m8 : Array Bool := #[T,T,T,T,T,T,T,F,F,F,F,F]
abbrev spec_l01Cur_stretch.m9 : Array Bool := #[T,T,T,T,T,F,T,T,F,F,F,F]
abbrev spec_l01Cur_stretch.m10 : Array Bool := #[T,T,T,T,T,T,T,T,T,F,F,F]
abbrev spec_l01Cur_stretch.m11 : Array Bool := #[T,T,T,T,T,T,T,T,T,T,F,F]
abbrev spec_l01Cur_stretch.m12 : Array Bool := #[T,T,T,T,T,T,T,T,T,T,T,F]
abbrev spec_l01Cur_stretch.m13 : Array Bool := #[T,T,T,T,T,T,T,T,T,T,T,T]
set_option maxHeartbeats 8000000 in
set_option maxRecDepth 100000 in
theorem spec_l01Cur_stretch.calls (k : Nat) (g : Nat) (s0_0 : List Int) (s0_1 : Int) (s0_2 : Int) (A1 : Option Addr) (c1 : Nat) (l1 : List Int) (r1 : Int) (r2 : Int) (r3 : Int) (r4 : Int) (r5 : Int) (w0 w : World) (hI : IsS71 w0 w g s0_0 s0_1 s0_2) (hB : Below w0.heap.size w0 w) (hr1 : Kd.C (Kd.int .u8) w A1 l1.length l1) (hc1 : l1.length ≤ c1) (hf1 : ∀ ad, A1 = some ad → 0 < l1.length → ad.block ≠ g) (h : spec_l01Cur_stretch.f k s0_0 s0_1 s0_2 l1 = some (r1, r2, r3, r4, r5)) :
  Calls Try.prog 61 #[.pointer (some ⟨g, 0, none⟩), .slice A1 l1.length c1] w fun e w' => e = .returned (.agg #[.int .i64 r1, .int .i64 r2, .int .i64 r3]) ∧ IsS71 w0 w' g s0_0 r4 r5 ∧ Below w0.heap.size w0 w' ∧ KeepBut w w' g none := by
 have hu27:=Try.underlying27
 have HR1:=mk0 hr1
 have HC1:=mk0 hc1
 clear hr1 hc1
 have HI0:=mk0 hI
 have HK:=mk0 (KeepBut.refl w g none)
 have HL:=mk0 hB.size
 clear hI
 have HW0:=mk0 hB.size
 have HB:=mk0 hB
 clear hB
 have H:((spec_StretchAll.f k l1).bind fun t378=>((spec_l01Cur_pick.f s0_0 s0_1 s0_2 6).bind fun bt381=>((spec_l01Cur_pick.f s0_0 bt381.2.1 bt381.2.2 9).bind fun bt384=>((spec_l01Cur_pick.f s0_0 bt384.2.1 bt384.2.2 4).bind fun bt387=>(if (t378.length:Int) > 0 then ((spec_l01Cur_once.f s0_0 bt387.2.1 bt387.2.2 6).bind fun bt391=>(spec_l01Cur_stretch.j0 k t378 (!bt391.1) s0_0 bt391.2.1 bt391.2.2 bt381.1 bt384.1 bt387.1)) else (spec_l01Cur_stretch.j0 k t378 false s0_0 bt387.2.1 bt387.2.2 bt381.1 bt384.1 bt387.1)))))) = some (r1,r2,r3,r4,r5):=h
 clear h
 replace H:=Option.bind_eq_some_iff.mp H
 obtain⟨t378,A30,H⟩:=H
 replace H:((spec_l01Cur_pick.f s0_0 s0_1 s0_2 6).bind fun bt381=>((spec_l01Cur_pick.f s0_0 bt381.2.1 bt381.2.2 9).bind fun bt384=>((spec_l01Cur_pick.f s0_0 bt384.2.1 bt384.2.2 4).bind fun bt387=>(if (t378.length:Int) > 0 then ((spec_l01Cur_once.f s0_0 bt387.2.1 bt387.2.2 6).bind fun bt391=>(spec_l01Cur_stretch.j0 k t378 (!bt391.1) s0_0 bt391.2.1 bt391.2.2 bt381.1 bt384.1 bt387.1)) else (spec_l01Cur_stretch.j0 k t378 false s0_0 bt387.2.1 bt387.2.2 bt381.1 bt384.1 bt387.1))))) = some (r1,r2,r3,r4,r5):=H
 have A3:=mk0 A30
 clear A30
 replace H:=Option.bind_eq_some_iff.mp H
 obtain⟨⟨t381,t382,t383⟩,A40,H⟩:=H
 replace H:((spec_l01Cur_pick.f s0_0 t382 t383 9).bind fun bt384=>((spec_l01Cur_pick.f s0_0 bt384.2.1 bt384.2.2 4).bind fun bt387=>(if (t378.length:Int) > 0 then ((spec_l01Cur_once.f s0_0 bt387.2.1 bt387.2.2 6).bind fun bt391=>(spec_l01Cur_stretch.j0 k t378 (!bt391.1) s0_0 bt391.2.1 bt391.2.2 t381 bt384.1 bt387.1)) else (spec_l01Cur_stretch.j0 k t378 false s0_0 bt387.2.1 bt387.2.2 t381 bt384.1 bt387.1)))) = some (r1,r2,r3,r4,r5):=H
 have A4:=mk0 A40
 clear A40
 replace H:=Option.bind_eq_some_iff.mp H
 obtain⟨⟨t384,t385,t386⟩,A50,H⟩:=H
 replace H:((spec_l01Cur_pick.f s0_0 t385 t386 4).bind fun bt387=>(if (t378.length:Int) > 0 then ((spec_l01Cur_once.f s0_0 bt387.2.1 bt387.2.2 6).bind fun bt391=>(spec_l01Cur_stretch.j0 k t378 (!bt391.1) s0_0 bt391.2.1 bt391.2.2 t381 t384 bt387.1)) else (spec_l01Cur_stretch.j0 k t378 false s0_0 bt387.2.1 bt387.2.2 t381 t384 bt387.1))) = some (r1,r2,r3,r4,r5):=H
 have A5:=mk0 A50
 clear A50
 replace H:=Option.bind_eq_some_iff.mp H
 obtain⟨⟨t387,t388,t389⟩,A60,H⟩:=H
 replace H:(if (t378.length:Int) > 0 then ((spec_l01Cur_once.f s0_0 t388 t389 6).bind fun bt391=>(spec_l01Cur_stretch.j0 k t378 (!bt391.1) s0_0 bt391.2.1 bt391.2.2 t381 t384 t387)) else (spec_l01Cur_stretch.j0 k t378 false s0_0 t388 t389 t381 t384 t387)) = some (r1,r2,r3,r4,r5):=H
 have A6:=mk0 A60
 clear A60
 have HC7:=mk0 H
 clear H
 go_enter Try.func61,Try.ntmps61
 go_upto_region 3 with (first|((with_reducible refine gate_dst (N:=4) rfl ?_);refine box_event ?hg (N:=4) ?hd (cs:=#[.int .i64 0,.int .i64 0,.int .i64 0]) (t:=27) ?hr ?_;(case hd=>rfl);(case hg=>rfl);(case hr=>first|(go_simp;done)|(go_simp;rfl));intro gb377 hg w8 hbox hb;replace HB:=mk0 (below_step (by repeat (first|(with_reducible first|exact HB.out|apply aZ|apply nZ|apply dZ|refine sZ ?_ (IsS71.ge HI0.out))|exact HB.out)) hb);have BK377:=mk0 (hbox);have GW377:=mk0 ((by rw [hg];exact (keep_size (w:=w) (g:=g) (row:=none) (by repeat (first|(with_reducible first|exact HK.out|apply KeepBut.set_|apply keep_drewN|apply keep_drew|apply keep_alloc)|exact HK.out))):w.heap.size ≤ gb377));have GE377:=mk0 ((Nat.le_trans HW0.out (by rw [hg];exact (keep_size (w:=w) (g:=g) (row:=none) (by repeat (first|(with_reducible first|exact HK.out|apply KeepBut.set_|apply keep_drewN|apply keep_drew|apply keep_alloc)|exact HK.out))):w.heap.size ≤ gb377):w0.heap.size ≤ gb377));replace HK:=mk0 (KeepBut.trans (by repeat (first|(with_reducible first|exact HK.out|apply KeepBut.set_|apply keep_drewN|apply keep_drew|apply keep_alloc)|exact HK.out)) (KeepBut.of_below hb g none) (.inl rfl));have NB0_377:=mk0 ((by rw [hg];exact Nat.ne_of_lt (IsS71.lt (show IsS71 w0 _ g s0_0 s0_1 s0_2 from by repeat (first|(with_reducible first|exact HI0.out|apply IsS71.alloc|apply IsS71.drewN|apply IsS71.drew|apply IsS71.set_1|apply IsS71.set_2)|exact HI0.out))):g ≠ gb377));have NB377_0:=mk0 ((by rw [hg];exact Nat.ne_of_gt (IsS71.lt (show IsS71 w0 _ g s0_0 s0_1 s0_2 from by repeat (first|(with_reducible first|exact HI0.out|apply IsS71.alloc|apply IsS71.drewN|apply IsS71.drew|apply IsS71.set_1|apply IsS71.set_2)|exact HI0.out))):gb377 ≠ g));replace HI0:=mk0 (IsS71.below (by repeat (first|(with_reducible first|exact HI0.out|apply IsS71.alloc|apply IsS71.drewN|apply IsS71.drew|apply IsS71.set_1|apply IsS71.set_2)|exact HI0.out)) hb);clear hb hbox hg)|((with_reducible refine gate_callee (f:=25) rfl ?_);refine goesL_ (some 8) rfl rfl Try.func25 (by kernel_rfl) rfl #[.slice A1 l1.length c1] rfl (by (try simp only [mA,mC,mN]);first|done|rfl|(simp only [lD,lT];done)|(simp only [lD,lT];rfl)) ?_;(with_reducible refine (spec_StretchAll.calls k _ _ l1 t378 _ ?side1 ?side2 A3.out).mono ?_);(case side1=>exact Kd.C_keep 0 HR1.out (by repeat (first|(with_reducible first|exact HK.out|apply KeepBut.set_|apply keep_drewN|apply keep_drew|apply keep_alloc|refine keep_far ?_ GW377.out _)|exact HK.out)) hf1);(case side2=>exact HC1.out);rintro e w9 ⟨v379,rfl,ho0,hb⟩;refine⟨_,rfl,?_⟩;have HO380:=mk0 (Kd.R_lower (Kd.R_newB ho0 (g:=gb377) (o:=.cells #[.int .i64 0,.int .i64 0,.int .i64 0] 27 (0,0)) (kN BK377.out)) (keep_size (w:=w) (g:=g) (row:=none) (by repeat (first|(with_reducible first|exact HK.out|apply KeepBut.set_|apply keep_drewN|apply keep_drew|apply keep_alloc|refine keep_far ?_ GW377.out _)|exact HK.out))));replace BK377:=mk0 (kK BK377.out hb);replace HK:=mk0 (KeepBut.trans (by repeat (first|(with_reducible first|exact HK.out|apply KeepBut.set_|apply keep_drewN|apply keep_drew|apply keep_alloc|refine keep_far ?_ GW377.out _)|exact HK.out)) (KeepBut.of_below hb g none) (.inl rfl));replace HB:=mk0 (below_step (by repeat (first|(with_reducible first|exact HB.out|apply aZ|apply nZ|apply dZ|refine sZ ?_ (IsS71.ge HI0.out)|refine sZ ?_ GE377.out)|exact HB.out)) hb);replace HI0:=mk0 (IsS71.below (by repeat (first|(with_reducible first|exact HI0.out|apply IsS71.alloc|apply IsS71.drewN|apply IsS71.drew|apply IsS71.set_1|apply IsS71.set_2|refine IsS71.far ?_ NB0_377.out _)|exact HI0.out)) hb);(try clear hb);(try clear ho0))|((with_reducible refine gate_callee (f:=75) rfl ?_);refine goesL_ (some 10) rfl rfl Try.func75 (by kernel_rfl) rfl #[.pointer (some ⟨g,0,none⟩),.int .i64 6] rfl (by (try simp only [mA,mC,mN]);first|done|rfl|(simp only [lD,lT];done)|(simp only [lD,lT];rfl)) ?_;(with_reducible refine (spec_l01Cur_pick.calls g s0_0 s0_1 s0_2 6 t381 t382 t383 w0 _ ?side1 ?side2 A4.out).mono ?_);(case side1=>repeat (first|(with_reducible first|exact HI0.out|apply IsS71.alloc|apply IsS71.drewN|apply IsS71.drew|apply IsS71.set_1|apply IsS71.set_2|refine IsS71.far ?_ NB0_377.out _)|exact HI0.out));(case side2=>repeat (first|(with_reducible first|exact HB.out|apply aZ|apply nZ|apply dZ|refine sZ ?_ (IsS71.ge HI0.out)|refine sZ ?_ GE377.out)|exact HB.out));rintro e w10 ⟨rfl,hi,hb,hk⟩;refine⟨_,rfl,?_⟩;replace BK377:=mk0 (KeepBut.blk hk (g':=gb377) (o:=.cells #[.int .i64 0,.int .i64 0,.int .i64 0] 27 (0,0)) (kN BK377.out) NB377_0.out (by simp));replace HO380:=mk0 (Kd.R_mono (Kd.R_keep (IsS71.apart (show IsS71 w0 _ g s0_0 s0_1 s0_2 from by repeat (first|(with_reducible first|exact HI0.out|apply IsS71.alloc|apply IsS71.drewN|apply IsS71.drew|apply IsS71.set_1|apply IsS71.set_2|refine IsS71.far ?_ NB0_377.out _)|exact HI0.out)) (rR HO380.out) (by decide)) hk (fun _ h=>h.2)) (fun _ h=>h.1));replace HK:=mk0 (KeepBut.trans (by repeat (first|(with_reducible first|exact HK.out|apply KeepBut.set_|apply keep_drewN|apply keep_drew|apply keep_alloc|refine keep_far ?_ GW377.out _)|exact HK.out)) hk (.inl rfl));replace HB:=mk0 (hb);replace HI0:=mk0 (hi);(try clear hb);(try clear hk);(try clear hi))|((with_reducible refine gate_callee (f:=75) rfl ?_);refine goesL_ (some 12) rfl rfl Try.func75 (by kernel_rfl) rfl #[.pointer (some ⟨g,0,none⟩),.int .i64 9] rfl (by (try simp only [mA,mC,mN]);first|done|rfl|(simp only [lD,lT];done)|(simp only [lD,lT];rfl)) ?_;(with_reducible refine (spec_l01Cur_pick.calls g s0_0 t382 t383 9 t384 t385 t386 w0 _ ?side1 ?side2 A5.out).mono ?_);(case side1=>repeat (first|(with_reducible first|exact HI0.out|apply IsS71.alloc|apply IsS71.drewN|apply IsS71.drew|apply IsS71.set_1|apply IsS71.set_2|refine IsS71.far ?_ NB0_377.out _)|exact HI0.out));(case side2=>repeat (first|(with_reducible first|exact HB.out|apply aZ|apply nZ|apply dZ|refine sZ ?_ (IsS71.ge HI0.out)|refine sZ ?_ GE377.out)|exact HB.out));rintro e w11 ⟨rfl,hi,hb,hk⟩;refine⟨_,rfl,?_⟩;replace BK377:=mk0 (KeepBut.blk hk (g':=gb377) (o:=.cells #[.int .i64 0,.int .i64 0,.int .i64 0] 27 (0,0)) (kN BK377.out) NB377_0.out (by simp));replace HO380:=mk0 (Kd.R_mono (Kd.R_keep (IsS71.apart (show IsS71 w0 _ g s0_0 t382 t383 from by repeat (first|(with_reducible first|exact HI0.out|apply IsS71.alloc|apply IsS71.drewN|apply IsS71.drew|apply IsS71.set_1|apply IsS71.set_2|refine IsS71.far ?_ NB0_377.out _)|exact HI0.out)) (rR HO380.out) (by decide)) hk (fun _ h=>h.2)) (fun _ h=>h.1));replace HK:=mk0 (KeepBut.trans (by repeat (first|(with_reducible first|exact HK.out|apply KeepBut.set_|apply keep_drewN|apply keep_drew|apply keep_alloc|refine keep_far ?_ GW377.out _)|exact HK.out)) hk (.inl rfl));replace HB:=mk0 (hb);replace HI0:=mk0 (hi);(try clear hb);(try clear hk);(try clear hi))|((with_reducible refine gate_callee (f:=75) rfl ?_);refine goesL_ (some 14) rfl rfl Try.func75 (by kernel_rfl) rfl #[.pointer (some ⟨g,0,none⟩),.int .i64 4] rfl (by (try simp only [mA,mC,mN]);first|done|rfl|(simp only [lD,lT];done)|(simp only [lD,lT];rfl)) ?_;(with_reducible refine (spec_l01Cur_pick.calls g s0_0 t385 t386 4 t387 t388 t389 w0 _ ?side1 ?side2 A6.out).mono ?_);(case side1=>repeat (first|(with_reducible first|exact HI0.out|apply IsS71.alloc|apply IsS71.drewN|apply IsS71.drew|apply IsS71.set_1|apply IsS71.set_2|refine IsS71.far ?_ NB0_377.out _)|exact HI0.out));(case side2=>repeat (first|(with_reducible first|exact HB.out|apply aZ|apply nZ|apply dZ|refine sZ ?_ (IsS71.ge HI0.out)|refine sZ ?_ GE377.out)|exact HB.out));rintro e w12 ⟨rfl,hi,hb,hk⟩;refine⟨_,rfl,?_⟩;replace BK377:=mk0 (KeepBut.blk hk (g':=gb377) (o:=.cells #[.int .i64 0,.int .i64 0,.int .i64 0] 27 (0,0)) (kN BK377.out) NB377_0.out (by simp));replace HO380:=mk0 (Kd.R_mono (Kd.R_keep (IsS71.apart (show IsS71 w0 _ g s0_0 t385 t386 from by repeat (first|(with_reducible first|exact HI0.out|apply IsS71.alloc|apply IsS71.drewN|apply IsS71.drew|apply IsS71.set_1|apply IsS71.set_2|refine IsS71.far ?_ NB0_377.out _)|exact HI0.out)) (rR HO380.out) (by decide)) hk (fun _ h=>h.2)) (fun _ h=>h.1));replace HK:=mk0 (KeepBut.trans (by repeat (first|(with_reducible first|exact HK.out|apply KeepBut.set_|apply keep_drewN|apply keep_drew|apply keep_alloc|refine keep_far ?_ GW377.out _)|exact HK.out)) hk (.inl rfl));replace HB:=mk0 (hb);replace HI0:=mk0 (hi);(try clear hb);(try clear hk);(try clear hi))|((with_reducible refine gate_dst (N:=6) rfl ?_);refine box_event ?hg (N:=6) ?hd (cs:=#[.int .i64 0,.int .i64 0,.int .i64 0]) (t:=27) ?hr ?_;(case hd=>rfl);(case hg=>rfl);(case hr=>first|(go_simp;done)|(go_simp;rfl));intro gb390 hg w13 hbox hb;replace HO380:=mk0 (Kd.R_below (Kd.R_elderB (rR HO380.out) gb390 (Nat.le_of_eq hg.symm)) hb);replace HB:=mk0 (below_step (by repeat (first|(with_reducible first|exact HB.out|apply aZ|apply nZ|apply dZ|refine sZ ?_ (IsS71.ge HI0.out)|refine sZ ?_ GE377.out)|exact HB.out)) hb);have BK390:=mk0 (hbox);have GW390:=mk0 ((by rw [hg];exact (keep_size (w:=w) (g:=g) (row:=none) (by repeat (first|(with_reducible first|exact HK.out|apply KeepBut.set_|apply keep_drewN|apply keep_drew|apply keep_alloc|refine keep_far ?_ GW377.out _)|exact HK.out))):w.heap.size ≤ gb390));have GE390:=mk0 ((Nat.le_trans HW0.out (by rw [hg];exact (keep_size (w:=w) (g:=g) (row:=none) (by repeat (first|(with_reducible first|exact HK.out|apply KeepBut.set_|apply keep_drewN|apply keep_drew|apply keep_alloc|refine keep_far ?_ GW377.out _)|exact HK.out))):w.heap.size ≤ gb390):w0.heap.size ≤ gb390));replace HK:=mk0 (KeepBut.trans (by repeat (first|(with_reducible first|exact HK.out|apply KeepBut.set_|apply keep_drewN|apply keep_drew|apply keep_alloc|refine keep_far ?_ GW377.out _)|exact HK.out)) (KeepBut.of_below hb g none) (.inl rfl));have NB377_390:=mk0 ((by rw [hg];exact Nat.ne_of_lt (kL BK377.out):gb377 ≠ gb390));have NB390_377:=mk0 ((by rw [hg];exact Nat.ne_of_gt (kL BK377.out):gb390 ≠ gb377));replace BK377:=mk0 (kK BK377.out hb);have NB0_390:=mk0 ((by rw [hg];exact Nat.ne_of_lt (IsS71.lt (show IsS71 w0 _ g s0_0 t388 t389 from by repeat (first|(with_reducible first|exact HI0.out|apply IsS71.alloc|apply IsS71.drewN|apply IsS71.drew|apply IsS71.set_1|apply IsS71.set_2|refine IsS71.far ?_ NB0_377.out _)|exact HI0.out))):g ≠ gb390));have NB390_0:=mk0 ((by rw [hg];exact Nat.ne_of_gt (IsS71.lt (show IsS71 w0 _ g s0_0 t388 t389 from by repeat (first|(with_reducible first|exact HI0.out|apply IsS71.alloc|apply IsS71.drewN|apply IsS71.drew|apply IsS71.set_1|apply IsS71.set_2|refine IsS71.far ?_ NB0_377.out _)|exact HI0.out))):gb390 ≠ g));replace HI0:=mk0 (IsS71.below (by repeat (first|(with_reducible first|exact HI0.out|apply IsS71.alloc|apply IsS71.drewN|apply IsS71.drew|apply IsS71.set_1|apply IsS71.set_2|refine IsS71.far ?_ NB0_377.out _)|exact HI0.out)) hb);clear hb hbox hg;have hnb14:=NB390_377.out;have hnc14:=NB377_390.out;have hnb15:=NB390_0.out;have hnc15:=NB0_390.out;obtain⟨hcz16_0,hcz16_1,hcz16_2,hfz16_0,hfz16_1,hfz16_2⟩:=cz3 BK390.out))
 (try simp only [Act.put,sA,sO,sS])
 go_cut [23] (fun v23 wc=>∃ (kq:Nat) (x23_6:Bool) (x1001_6:Int) (x1002_6:Int),v23 = .bool x23_6 ∧ Aside0 (spec_l01Cur_stretch.j0 kq t378 x23_6 s0_0 x1001_6 x1002_6 t381 t384 t387 = some (r1,r2,r3,r4,r5)) ∧ Aside0 (kq ≤ k) ∧ Aside0 (Kd.R k27 27 wc w.heap.size (fun k_=>k_ ≠ gb377 ∧ k_ ≠ gb390) v379 t378) ∧ Aside0 (wc.heap[gb377]? = some (.cells #[.int .i64 0,.int .i64 0,.int .i64 0] 27 (0,0))) ∧ Aside0 (wc.heap[gb390]? = some (.cells #[.int .i64 t381,.int .i64 t384,.int .i64 t387] 27 (0,0))) ∧ Aside0 (IsS71 w0 wc g s0_0 x1001_6 x1002_6) ∧ Aside0 (KeepBut w wc g none) ∧ Aside0 (Below w0.heap.size w0 wc))
 case first =>
  have H:=HC7.out
  clear HC7
  by_cases c17:(t378.length:Int) > 0
  rotate_left
  ·rw [if_neg c17] at H
   have c17b0:decide (0 < (t378.length:Int)) = false:=decide_eq_false c17
   have c17b1:decide (0 < t378.length) = false:=decide_eq_false (by omega)
   clear c17
   (first|rw [c17b0]|(simp only [i64_w,i32_w];rw [c17b0])|skip)
   have H':=mk0 H
   clear H
   obtain⟨Ao21,co21,eo21⟩:=Kd.R_slice HO380.out
   subst eo21
   go_wp2
   go_meet
   case rel=>exact⟨_,(false),(t388),(t389),(by first|rfl|(simp;done)|(simp [*];done)),H',⟨by first|omega|exact Nat.le_refl _⟩,⟨by (with_reducible repeat (first|apply aR|apply nR|apply dR));exact Kd.R_mono (Kd.R_far (p:=⟨gb390,2,none⟩) (Kd.R_far (p:=⟨gb390,1,none⟩) (Kd.R_far (p:=⟨gb390,0,none⟩) (Kd.R_mono HO380.out (fun k_ hk=>(⟨hk,hk.2⟩:_ ∧ k_ ≠ gb390))) (fun _ hk=>hk.2) (.int .i64 t381)) (fun _ hk=>hk.2) (.int .i64 t384)) (fun _ hk=>hk.2) (.int .i64 t387)) (fun _ hk=>⟨hk.1.1.2,hk.1.2⟩)⟩,⟨by (with_reducible repeat (first|apply nB|apply dB|apply aB));refine blk_far ?_ NB377_390.out _;(with_reducible repeat (first|apply nB|apply dB|apply aB));refine blk_far ?_ NB377_390.out _;(with_reducible repeat (first|apply nB|apply dB|apply aB));refine blk_far ?_ NB377_390.out _;(with_reducible repeat (first|apply nB|apply dB|apply aB));exact BK377.out⟩,⟨by (with_reducible repeat (first|apply nB|apply dB|apply aB));refine blk_put (cs:=#[.int .i64 t381,.int .i64 t384,.int .i64 0]) ?_ 2 _ rfl;(with_reducible repeat (first|apply nB|apply dB|apply aB));refine blk_put (cs:=#[.int .i64 t381,.int .i64 0,.int .i64 0]) ?_ 1 _ rfl;(with_reducible repeat (first|apply nB|apply dB|apply aB));refine blk_put (cs:=#[.int .i64 0,.int .i64 0,.int .i64 0]) ?_ 0 _ rfl;(with_reducible repeat (first|apply nB|apply dB|apply aB));exact BK390.out⟩,⟨by repeat (first|(with_reducible first|exact HI0.out|apply IsS71.alloc|apply IsS71.drewN|apply IsS71.drew|apply IsS71.set_1|apply IsS71.set_2|refine IsS71.far ?_ NB0_377.out _|refine IsS71.far ?_ NB0_390.out _)|exact HI0.out)⟩,⟨by repeat (first|(with_reducible first|exact HK.out|apply KeepBut.set_|apply keep_drewN|apply keep_drew|apply keep_alloc|refine keep_far ?_ GW377.out _|refine keep_far ?_ GW390.out _)|exact HK.out)⟩,⟨by repeat (first|(with_reducible first|exact HB.out|apply aZ|apply nZ|apply dZ|refine sZ ?_ (IsS71.ge HI0.out)|refine sZ ?_ GE377.out|refine sZ ?_ GE390.out)|exact HB.out)⟩⟩
  rw [if_pos c17] at H
  have c17b0:decide (0 < (t378.length:Int)) = true:=decide_eq_true c17
  have c17b1:decide (0 < t378.length) = true:=decide_eq_true (by omega)
  clear c17
  (first|rw [c17b0]|(simp only [i64_w,i32_w];rw [c17b0])|skip)
  replace H:=Option.bind_eq_some_iff.mp H
  obtain⟨⟨t391,t392,t393⟩,A180,H⟩:=H
  replace H:(spec_l01Cur_stretch.j0 k t378 (!t391) s0_0 t392 t393 t381 t384 t387) = some (r1,r2,r3,r4,r5):=H
  have A18:=mk0 A180
  clear A180
  have H':=mk0 H
  clear H
  obtain⟨Ao19,co19,eo19⟩:=Kd.R_slice HO380.out
  subst eo19
  go_wp2_with (first|(go_at_call 77;(with_reducible refine (spec_l01Cur_once.calls g s0_0 t388 t389 6 t391 t392 t393 w0 _ ?side1 ?side2 A18.out).mono ?_);(case side1=>repeat (first|(with_reducible first|exact HI0.out|apply IsS71.alloc|apply IsS71.drewN|apply IsS71.drew|apply IsS71.set_1|apply IsS71.set_2|refine IsS71.far ?_ NB0_377.out _|refine IsS71.far ?_ NB0_390.out _)|exact HI0.out));(case side2=>repeat (first|(with_reducible first|exact HB.out|apply aZ|apply nZ|apply dZ|refine sZ ?_ (IsS71.ge HI0.out)|refine sZ ?_ GE377.out|refine sZ ?_ GE390.out)|exact HB.out));rintro e w20 ⟨rfl,hi,hb,hk⟩;replace BK377:=mk0 (KeepBut.blk hk (g':=gb377) (o:=.cells #[.int .i64 0,.int .i64 0,.int .i64 0] 27 (0,0)) (by (with_reducible repeat (first|apply nB|apply dB|apply aB));refine blk_far ?_ NB377_390.out _;(with_reducible repeat (first|apply nB|apply dB|apply aB));refine blk_far ?_ NB377_390.out _;(with_reducible repeat (first|apply nB|apply dB|apply aB));refine blk_far ?_ NB377_390.out _;(with_reducible repeat (first|apply nB|apply dB|apply aB));exact BK377.out) NB377_0.out (by simp));replace HO380:=mk0 (Kd.R_mono (Kd.R_keep (IsS71.apart (show IsS71 w0 _ g s0_0 t388 t389 from by repeat (first|(with_reducible first|exact HI0.out|apply IsS71.alloc|apply IsS71.drewN|apply IsS71.drew|apply IsS71.set_1|apply IsS71.set_2|refine IsS71.far ?_ NB0_377.out _|refine IsS71.far ?_ NB0_390.out _)|exact HI0.out)) (by (with_reducible repeat (first|apply aR|apply nR|apply dR));exact (Kd.R_mono (Kd.R_far (p:=⟨gb390,2,none⟩) (Kd.R_far (p:=⟨gb390,1,none⟩) (Kd.R_far (p:=⟨gb390,0,none⟩) (Kd.R_mono HO380.out (fun k_ hk=>(⟨hk,hk.2⟩:_ ∧ k_ ≠ gb390))) (fun _ hk=>hk.2) (.int .i64 t381)) (fun _ hk=>hk.2) (.int .i64 t384)) (fun _ hk=>hk.2) (.int .i64 t387)) (fun _ h_=>h_.1))) (by decide)) hk (fun _ h=>h.2)) (fun _ h=>h.1));replace BK390:=mk0 (KeepBut.blk hk (g':=gb390) (o:=.cells #[.int .i64 t381,.int .i64 t384,.int .i64 t387] 27 (0,0)) (by (with_reducible repeat (first|apply nB|apply dB|apply aB));refine blk_put (cs:=#[.int .i64 t381,.int .i64 t384,.int .i64 0]) ?_ 2 _ rfl;(with_reducible repeat (first|apply nB|apply dB|apply aB));refine blk_put (cs:=#[.int .i64 t381,.int .i64 0,.int .i64 0]) ?_ 1 _ rfl;(with_reducible repeat (first|apply nB|apply dB|apply aB));refine blk_put (cs:=#[.int .i64 0,.int .i64 0,.int .i64 0]) ?_ 0 _ rfl;(with_reducible repeat (first|apply nB|apply dB|apply aB));exact BK390.out) NB390_0.out (by simp));replace HK:=mk0 (KeepBut.trans (by repeat (first|(with_reducible first|exact HK.out|apply KeepBut.set_|apply keep_drewN|apply keep_drew|apply keep_alloc|refine keep_far ?_ GW377.out _|refine keep_far ?_ GW390.out _)|exact HK.out)) hk (.inl rfl));replace HB:=mk0 (hb);replace HI0:=mk0 (hi);(try clear hb);(try clear hk);(try clear hi)))
  go_meet
  case rel=>exact⟨_,(!t391),(t392),(t393),(by first|rfl|(simp;done)|(simp [*];done)),H',⟨by first|omega|exact Nat.le_refl _⟩,⟨rR (Kd.R_mono HO380.out (fun _ hk=>⟨hk.1.2,hk.2⟩))⟩,⟨kN BK377.out⟩,⟨kN BK390.out⟩,⟨by repeat (first|(with_reducible first|exact HI0.out|apply IsS71.alloc|apply IsS71.drewN|apply IsS71.drew|apply IsS71.set_1|apply IsS71.set_2|refine IsS71.far ?_ NB0_377.out _|refine IsS71.far ?_ NB0_390.out _)|exact HI0.out)⟩,⟨by repeat (first|(with_reducible first|exact HK.out|apply KeepBut.set_|apply keep_drewN|apply keep_drew|apply keep_alloc|refine keep_far ?_ GW377.out _|refine keep_far ?_ GW390.out _)|exact HK.out)⟩,⟨by repeat (first|(with_reducible first|exact HB.out|apply aZ|apply nZ|apply dZ|refine sZ ?_ (IsS71.ge HI0.out)|refine sZ ?_ GE377.out|refine sZ ?_ GE390.out)|exact HB.out)⟩⟩
 case rest =>
  clear HC7
  try clear c1
  try clear c2
  try clear p2
  try clear c6
  try clear c7
  try clear c14
  try clear c15
  try clear c17
  try clear c17b0
  try clear c17b1
  try clear hcz16_0
  try clear hcz16_1
  try clear hcz16_2
  try clear hfz16_0
  try clear hfz16_1
  try clear hfz16_2
  obtain⟨kq,x23_6,x1001_6,x1002_6,rfl,HA,HJ6,HO_5,BK377,BK390,HI0,HK,HB⟩:=hcut
  cases kq with
  | zero=>exact absurd HA.out (by simp [spec_l01Cur_stretch.j0])
  | succ kj6 =>
   have H:=HA.out
   clear HA
   simp only [spec_l01Cur_stretch.j0] at H
   by_cases c22:x23_6 = true
   rotate_left
   ·replace c22:=Bool.eq_false_iff.mpr c22
    subst c22
    have H1:(some (t381,t384,t387,x1001_6,x1002_6)) = some (r1,r2,r3,r4,r5):=by rw [if_neg (show ¬ (false = true) by decide)] at H;exact H
    clear H
    have H:=H1
    clear H1
    simp only [Option.some.injEq,Prod.mk.injEq] at H
    obtain⟨rfl,rfl,rfl,rfl,rfl⟩:=H
    have hnb95:=NB390_377.out
    have hnc95:=NB377_390.out
    have hnb96:=NB390_0.out
    have hnc96:=NB0_390.out
    obtain⟨hcz97_0,hcz97_1,hcz97_2,hfz97_0,hfz97_1,hfz97_2⟩:=cz3 BK390.out
    have hnb98:=NB377_0.out
    have hnc98:=NB0_377.out
    obtain⟨hcz99_0,hcz99_1,hcz99_2,hfz99_0,hfz99_1,hfz99_2⟩:=cz3 BK377.out
    go_wp2
    refine bodyPost_ret (results_cell_row rfl _ _ gb377 27 #[.int .i64 t381,.int .i64 t384,.int .i64 t387] (0,0) _ rfl (by (with_reducible repeat (first|apply nB|apply dB|apply aB));refine blk_put (cs:=#[.int .i64 t381,.int .i64 t384,.int .i64 0]) ?_ 2 _ rfl;(with_reducible repeat (first|apply nB|apply dB|apply aB));refine blk_put (cs:=#[.int .i64 t381,.int .i64 0,.int .i64 0]) ?_ 1 _ rfl;(with_reducible repeat (first|apply nB|apply dB|apply aB));refine blk_put (cs:=#[.int .i64 0,.int .i64 0,.int .i64 0]) ?_ 0 _ rfl;(with_reducible repeat (first|apply nB|apply dB|apply aB));exact BK377.out) Try.underlying27 rfl (by kernel_rfl)) rfl ?_
    exact⟨by first|rfl|(simp [errW_none,errW_some] <;> rfl)|(simp [*,errW_none,errW_some] <;> rfl),by repeat (first|(with_reducible first|exact HI0.out|apply IsS71.alloc|apply IsS71.drewN|apply IsS71.drew|apply IsS71.set_1|apply IsS71.set_2|refine IsS71.far ?_ NB0_377.out _|refine IsS71.far ?_ NB0_390.out _)|exact HI0.out),by repeat (first|(with_reducible first|exact HB.out|apply aZ|apply nZ|apply dZ|refine sZ ?_ (IsS71.ge HI0.out)|refine sZ ?_ GE377.out|refine sZ ?_ GE390.out)|exact HB.out),by repeat (first|(with_reducible first|exact HK.out|apply KeepBut.set_|apply keep_drewN|apply keep_drew|apply keep_alloc|refine keep_far ?_ GW377.out _|refine keep_far ?_ GW390.out _)|exact HK.out)⟩

   subst c22
   have H1:((spec_l01Cur_pick.f s0_0 x1001_6 x1002_6 (mn 256 (t378.length:Int))).bind fun bt394=>(if 0 ≤ bt394.1 then (if bt394.1 < (t378.length:Int) then ((spec_l01Cur_pick.f s0_0 bt394.2.1 bt394.2.2 9).bind fun bt398=>(if bt398.1 = 0 then ((spec_l01Cur_raw.f s0_0 bt398.2.1 bt398.2.2).bind fun bt401=>((some (([bt401.1,wrap64 (((rd_T27 t378 bt394.1).f2) + 1)]:List Int):List Int)).bind fun y404=>((spec_l01Cur_pick.f s0_0 bt401.2.1 bt401.2.2 2).bind fun bt407=>(if 0 ≤ bt407.1 then (if bt407.1 < (y404.length:Int) then (some ((rd_T27 t378 bt394.1).f0,(rd_T27 t378 bt394.1).f1,rd y404 bt407.1,bt407.2.1,bt407.2.2)) else (none)) else (none))))) else (if bt398.1 = 1 then ((spec_l01Cur_raw.f s0_0 bt398.2.1 bt398.2.2).bind fun bt411=>((some (([bt411.1,wrap64 (((rd_T27 t378 bt394.1).f1) - 1)]:List Int):List Int)).bind fun y414=>((spec_l01Cur_pick.f s0_0 bt411.2.1 bt411.2.2 2).bind fun bt417=>(if 0 ≤ bt417.1 then (if bt417.1 < (y414.length:Int) then (some ((rd_T27 t378 bt394.1).f0,rd y414 bt417.1,(rd_T27 t378 bt394.1).f2,bt417.2.1,bt417.2.2)) else (none)) else (none))))) else (if bt398.1 = 2 then ((spec_l01Cur_raw.f s0_0 bt398.2.1 bt398.2.2).bind fun bt421=>(some (bt421.1,(rd_T27 t378 bt394.1).f1,(rd_T27 t378 bt394.1).f2,bt421.2.1,bt421.2.2))) else (some ((rd_T27 t378 bt394.1).f0,(rd_T27 t378 bt394.1).f1,(rd_T27 t378 bt394.1).f2,bt398.2.1,bt398.2.2)))))) else (none)) else (none))) = some (r1,r2,r3,r4,r5):=by rw [if_pos rfl] at H;exact H
   clear H
   have H:=H1
   clear H1
   obtain⟨ji23,hji23⟩:∃ j_:Int,(mn 256 (t378.length:Int)) = j_:=⟨_,rfl⟩
   replace H:((spec_l01Cur_pick.f s0_0 x1001_6 x1002_6 (ji23)).bind fun bt394=>(if 0 ≤ bt394.1 then (if bt394.1 < (t378.length:Int) then ((spec_l01Cur_pick.f s0_0 bt394.2.1 bt394.2.2 9).bind fun bt398=>(if bt398.1 = 0 then ((spec_l01Cur_raw.f s0_0 bt398.2.1 bt398.2.2).bind fun bt401=>((some (([bt401.1,wrap64 (((rd_T27 t378 bt394.1).f2) + 1)]:List Int):List Int)).bind fun y404=>((spec_l01Cur_pick.f s0_0 bt401.2.1 bt401.2.2 2).bind fun bt407=>(if 0 ≤ bt407.1 then (if bt407.1 < (y404.length:Int) then (some ((rd_T27 t378 bt394.1).f0,(rd_T27 t378 bt394.1).f1,rd y404 bt407.1,bt407.2.1,bt407.2.2)) else (none)) else (none))))) else (if bt398.1 = 1 then ((spec_l01Cur_raw.f s0_0 bt398.2.1 bt398.2.2).bind fun bt411=>((some (([bt411.1,wrap64 (((rd_T27 t378 bt394.1).f1) - 1)]:List Int):List Int)).bind fun y414=>((spec_l01Cur_pick.f s0_0 bt411.2.1 bt411.2.2 2).bind fun bt417=>(if 0 ≤ bt417.1 then (if bt417.1 < (y414.length:Int) then (some ((rd_T27 t378 bt394.1).f0,rd y414 bt417.1,(rd_T27 t378 bt394.1).f2,bt417.2.1,bt417.2.2)) else (none)) else (none))))) else (if bt398.1 = 2 then ((spec_l01Cur_raw.f s0_0 bt398.2.1 bt398.2.2).bind fun bt421=>(some (bt421.1,(rd_T27 t378 bt394.1).f1,(rd_T27 t378 bt394.1).f2,bt421.2.1,bt421.2.2))) else (some ((rd_T27 t378 bt394.1).f0,(rd_T27 t378 bt394.1).f1,(rd_T27 t378 bt394.1).f2,bt398.2.1,bt398.2.2)))))) else (none)) else (none))) = some (r1,r2,r3,r4,r5):=by first|(rw [hji23] at H;exact H)|(simp only [hji23] at H ⊢;exact H)
   have hji23_:(if (t378.length:Int) < 256 then (t378.length:Int) else 256) = ji23:=hji23
   replace H:=Option.bind_eq_some_iff.mp H
   obtain⟨⟨t394,t395,t396⟩,A240,H⟩:=H
   replace H:(if 0 ≤ t394 then (if t394 < (t378.length:Int) then ((spec_l01Cur_pick.f s0_0 t395 t396 9).bind fun bt398=>(if bt398.1 = 0 then ((spec_l01Cur_raw.f s0_0 bt398.2.1 bt398.2.2).bind fun bt401=>((some (([bt401.1,wrap64 (((rd_T27 t378 t394).f2) + 1)]:List Int):List Int)).bind fun y404=>((spec_l01Cur_pick.f s0_0 bt401.2.1 bt401.2.2 2).bind fun bt407=>(if 0 ≤ bt407.1 then (if bt407.1 < (y404.length:Int) then (some ((rd_T27 t378 t394).f0,(rd_T27 t378 t394).f1,rd y404 bt407.1,bt407.2.1,bt407.2.2)) else (none)) else (none))))) else (if bt398.1 = 1 then ((spec_l01Cur_raw.f s0_0 bt398.2.1 bt398.2.2).bind fun bt411=>((some (([bt411.1,wrap64 (((rd_T27 t378 t394).f1) - 1)]:List Int):List Int)).bind fun y414=>((spec_l01Cur_pick.f s0_0 bt411.2.1 bt411.2.2 2).bind fun bt417=>(if 0 ≤ bt417.1 then (if bt417.1 < (y414.length:Int) then (some ((rd_T27 t378 t394).f0,rd y414 bt417.1,(rd_T27 t378 t394).f2,bt417.2.1,bt417.2.2)) else (none)) else (none))))) else (if bt398.1 = 2 then ((spec_l01Cur_raw.f s0_0 bt398.2.1 bt398.2.2).bind fun bt421=>(some (bt421.1,(rd_T27 t378 t394).f1,(rd_T27 t378 t394).f2,bt421.2.1,bt421.2.2))) else (some ((rd_T27 t378 t394).f0,(rd_T27 t378 t394).f1,(rd_T27 t378 t394).f2,bt398.2.1,bt398.2.2)))))) else (none)) else (none)) = some (r1,r2,r3,r4,r5):=H
   have A24:=mk0 A240
   clear A240
   by_cases c25:0 ≤ t394
   rotate_left
   ·rw [if_neg c25] at H
    exact absurd H (by simp)
   rw [if_pos c25] at H
   have c25b0:decide (0 ≤ t394) = true:=decide_eq_true c25
   clear c25
   by_cases c26:t394 < (t378.length:Int)
   rotate_left
   ·rw [if_neg c26] at H
    exact absurd H (by simp)
   rw [if_pos c26] at H
   have c26b0:decide (t394 < (t378.length:Int)) = true:=decide_eq_true c26
   clear c26
   replace H:=Option.bind_eq_some_iff.mp H
   obtain⟨⟨t398,t399,t400⟩,A270,H⟩:=H
   replace H:(if t398 = 0 then ((spec_l01Cur_raw.f s0_0 t399 t400).bind fun bt401=>((some (([bt401.1,wrap64 (((rd_T27 t378 t394).f2) + 1)]:List Int):List Int)).bind fun y404=>((spec_l01Cur_pick.f s0_0 bt401.2.1 bt401.2.2 2).bind fun bt407=>(if 0 ≤ bt407.1 then (if bt407.1 < (y404.length:Int) then (some ((rd_T27 t378 t394).f0,(rd_T27 t378 t394).f1,rd y404 bt407.1,bt407.2.1,bt407.2.2)) else (none)) else (none))))) else (if t398 = 1 then ((spec_l01Cur_raw.f s0_0 t399 t400).bind fun bt411=>((some (([bt411.1,wrap64 (((rd_T27 t378 t394).f1) - 1)]:List Int):List Int)).bind fun y414=>((spec_l01Cur_pick.f s0_0 bt411.2.1 bt411.2.2 2).bind fun bt417=>(if 0 ≤ bt417.1 then (if bt417.1 < (y414.length:Int) then (some ((rd_T27 t378 t394).f0,rd y414 bt417.1,(rd_T27 t378 t394).f2,bt417.2.1,bt417.2.2)) else (none)) else (none))))) else (if t398 = 2 then ((spec_l01Cur_raw.f s0_0 t399 t400).bind fun bt421=>(some (bt421.1,(rd_T27 t378 t394).f1,(rd_T27 t378 t394).f2,bt421.2.1,bt421.2.2))) else (some ((rd_T27 t378 t394).f0,(rd_T27 t378 t394).f1,(rd_T27 t378 t394).f2,t399,t400))))) = some (r1,r2,r3,r4,r5):=H
   have A27:=mk0 A270
   clear A270
   by_cases c28:t398 = 0
   ·rw [if_pos c28] at H
    have c28b0:(t398 == 0) = true:=beq_iff_eq.mpr c28
    have c28b1:(t398 != 0) = false:=bne_eq_false_iff_eq.mpr c28
    clear c28
    replace H:=Option.bind_eq_some_iff.mp H
    obtain⟨⟨t401,t402,t403⟩,A290,H⟩:=H
    replace H:((some (([t401,wrap64 (((rd_T27 t378 t394).f2) + 1)]:List Int):List Int)).bind fun y404=>((spec_l01Cur_pick.f s0_0 t402 t403 2).bind fun bt407=>(if 0 ≤ bt407.1 then (if bt407.1 < (y404.length:Int) then (some ((rd_T27 t378 t394).f0,(rd_T27 t378 t394).f1,rd y404 bt407.1,bt407.2.1,bt407.2.2)) else (none)) else (none)))) = some (r1,r2,r3,r4,r5):=H
    have A29:=mk0 A290
    clear A290
    obtain⟨y404,hy404⟩:∃ y_:List Int,y_ = (([t401,wrap64 (((rd_T27 t378 t394).f2) + 1)]:List Int)):=⟨_,rfl⟩
    replace H:((spec_l01Cur_pick.f s0_0 t402 t403 2).bind fun bt407=>(if 0 ≤ bt407.1 then (if bt407.1 < (y404.length:Int) then (some ((rd_T27 t378 t394).f0,(rd_T27 t378 t394).f1,rd y404 bt407.1,bt407.2.1,bt407.2.2)) else (none)) else (none))) = some (r1,r2,r3,r4,r5):=by first|(rw [hy404];with_reducible exact H)|(have H2_:=(Option.bind_some _ _).symm.trans H;rw [hy404];with_reducible exact H2_)|(have H2_:=(Option.bind_some _ _).symm.trans H;with_reducible exact H2_)|with_reducible exact H|(rw [hy404];exact H)|exact H
    have Ny404:=mk0 hy404
    clear hy404
    replace H:=Option.bind_eq_some_iff.mp H
    obtain⟨⟨t407,t408,t409⟩,A300,H⟩:=H
    replace H:(if 0 ≤ t407 then (if t407 < (y404.length:Int) then (some ((rd_T27 t378 t394).f0,(rd_T27 t378 t394).f1,rd y404 t407,t408,t409)) else (none)) else (none)) = some (r1,r2,r3,r4,r5):=H
    have A30:=mk0 A300
    clear A300
    by_cases c31:0 ≤ t407
    rotate_left
    ·rw [if_neg c31] at H
     exact absurd H (by simp)
    rw [if_pos c31] at H
    have c31b0:decide (0 ≤ t407) = true:=decide_eq_true c31
    clear c31
    by_cases c32:t407 < (y404.length:Int)
    rotate_left
    ·rw [if_neg c32] at H
     exact absurd H (by simp)
    rw [if_pos c32] at H
    have c32b0:decide (t407 < (y404.length:Int)) = true:=decide_eq_true c32
    clear c32
    simp only [Option.some.injEq,Prod.mk.injEq] at H
    obtain⟨rfl,rfl,rfl,rfl,rfl⟩:=H
    obtain⟨Ao33,co33,eo33⟩:=Kd.R_slice HO_5.out
    subst eo33
    try go_wp2_with (first|((with_reducible refine gate_callee (f:=75) rfl ?_);refine goesL_ (some 29) rfl rfl Try.func75 (by kernel_rfl) rfl #[.pointer (some ⟨g,0,none⟩),.int .i64 ji23] rfl (by (try simp only [mA,mC,mN]);first|done|(simp only [hji23];rfl)|rfl|(simp only [lD,lT];done)|(simp only [lD,lT];rfl)) ?_;(with_reducible refine (spec_l01Cur_pick.calls g s0_0 x1001_6 x1002_6 ji23 t394 t395 t396 w0 _ ?side1 ?side2 A24.out).mono ?_);(case side1=>repeat (first|(with_reducible first|exact HI0.out|apply IsS71.alloc|apply IsS71.drewN|apply IsS71.drew|apply IsS71.set_1|apply IsS71.set_2|refine IsS71.far ?_ NB0_377.out _|refine IsS71.far ?_ NB0_390.out _)|exact HI0.out));(case side2=>repeat (first|(with_reducible first|exact HB.out|apply aZ|apply nZ|apply dZ|refine sZ ?_ (IsS71.ge HI0.out)|refine sZ ?_ GE377.out|refine sZ ?_ GE390.out)|exact HB.out));rintro e w34 ⟨rfl,hi,hb,hk⟩;refine⟨_,rfl,?_⟩;replace HO_5:=mk0 (Kd.R_mono (Kd.R_keep (IsS71.apart (show IsS71 w0 _ g s0_0 x1001_6 x1002_6 from by repeat (first|(with_reducible first|exact HI0.out|apply IsS71.alloc|apply IsS71.drewN|apply IsS71.drew|apply IsS71.set_1|apply IsS71.set_2|refine IsS71.far ?_ NB0_377.out _|refine IsS71.far ?_ NB0_390.out _)|exact HI0.out)) (rR HO_5.out) (by decide)) hk (fun _ h=>h.2)) (fun _ h=>h.1));replace BK377:=mk0 (KeepBut.blk hk (g':=gb377) (o:=.cells #[.int .i64 0,.int .i64 0,.int .i64 0] 27 (0,0)) (kN BK377.out) NB377_0.out (by simp));replace BK390:=mk0 (KeepBut.blk hk (g':=gb390) (o:=.cells #[.int .i64 t381,.int .i64 t384,.int .i64 t387] 27 (0,0)) (kN BK390.out) NB390_0.out (by simp));replace HK:=mk0 (KeepBut.trans (by repeat (first|(with_reducible first|exact HK.out|apply KeepBut.set_|apply keep_drewN|apply keep_drew|apply keep_alloc|refine keep_far ?_ GW377.out _|refine keep_far ?_ GW390.out _)|exact HK.out)) hk (.inl rfl));replace HB:=mk0 (hb);replace HI0:=mk0 (hi);(try clear hb);(try clear hk);(try clear hi);have p397:0 ≤ (t394:Int):=of_decide_eq_true (by first|(with_reducible assumption)|assumption);have q397:t394 < (t378.length:Int):=of_decide_eq_true (by first|(with_reducible assumption)|assumption);obtain⟨ad397,e397,hx397_0,hx397_1,hx397_2⟩:=at_T27 (Kd.R_reads' HO_5.out).2.2 t394 p397 q397;cases e397;replace p397:=eq_true p397;replace q397:=eq_true q397;have hnb35:=NB390_377.out;have hnc35:=NB377_390.out;have hnb36:=NB390_0.out;have hnc36:=NB0_390.out;obtain⟨hcz37_0,hcz37_1,hcz37_2,hfz37_0,hfz37_1,hfz37_2⟩:=cz3 BK390.out)|((with_reducible refine gate_callee (f:=75) rfl ?_);refine goesL_ (some 33) rfl rfl Try.func75 (by kernel_rfl) rfl #[.pointer (some ⟨g,0,none⟩),.int .i64 9] rfl (by (try simp only [mA,mC,mN]);first|done|rfl|(simp only [lD,lT];done)|(simp only [lD,lT];rfl)) ?_;(with_reducible refine (spec_l01Cur_pick.calls g s0_0 t395 t396 9 t398 t399 t400 w0 _ ?side1 ?side2 A27.out).mono ?_);(case side1=>repeat (first|(with_reducible first|exact HI0.out|apply IsS71.alloc|apply IsS71.drewN|apply IsS71.drew|apply IsS71.set_1|apply IsS71.set_2|refine IsS71.far ?_ NB0_377.out _|refine IsS71.far ?_ NB0_390.out _)|exact HI0.out));(case side2=>repeat (first|(with_reducible first|exact HB.out|apply aZ|apply nZ|apply dZ|refine sZ ?_ (IsS71.ge HI0.out)|refine sZ ?_ GE377.out|refine sZ ?_ GE390.out)|exact HB.out));rintro e w38 ⟨rfl,hi,hb,hk⟩;refine⟨_,rfl,?_⟩;replace HO_5:=mk0 (Kd.R_mono (Kd.R_keep (IsS71.apart (show IsS71 w0 _ g s0_0 t395 t396 from by repeat (first|(with_reducible first|exact HI0.out|apply IsS71.alloc|apply IsS71.drewN|apply IsS71.drew|apply IsS71.set_1|apply IsS71.set_2|refine IsS71.far ?_ NB0_377.out _|refine IsS71.far ?_ NB0_390.out _)|exact HI0.out)) (by (with_reducible repeat (first|apply aR|apply nR|apply dR));exact (Kd.R_mono (Kd.R_far (p:=⟨gb390,2,none⟩) (Kd.R_far (p:=⟨gb390,1,none⟩) (Kd.R_far (p:=⟨gb390,0,none⟩) (Kd.R_mono HO_5.out (fun k_ hk=>(⟨hk,hk.2⟩:_ ∧ k_ ≠ gb390))) (fun _ hk=>hk.2) (.int .i64 ((rd_T27 t378 t394).f0))) (fun _ hk=>hk.2) (.int .i64 ((rd_T27 t378 t394).f1))) (fun _ hk=>hk.2) (.int .i64 ((rd_T27 t378 t394).f2))) (fun _ h_=>h_.1))) (by decide)) hk (fun _ h=>h.2)) (fun _ h=>h.1));replace BK377:=mk0 (KeepBut.blk hk (g':=gb377) (o:=.cells #[.int .i64 0,.int .i64 0,.int .i64 0] 27 (0,0)) (by (with_reducible repeat (first|apply nB|apply dB|apply aB));refine blk_far ?_ NB377_390.out _;(with_reducible repeat (first|apply nB|apply dB|apply aB));refine blk_far ?_ NB377_390.out _;(with_reducible repeat (first|apply nB|apply dB|apply aB));refine blk_far ?_ NB377_390.out _;(with_reducible repeat (first|apply nB|apply dB|apply aB));exact BK377.out) NB377_0.out (by simp));replace BK390:=mk0 (KeepBut.blk hk (g':=gb390) (o:=.cells #[.int .i64 ((rd_T27 t378 t394).f0),.int .i64 ((rd_T27 t378 t394).f1),.int .i64 ((rd_T27 t378 t394).f2)] 27 (0,0)) (by (with_reducible repeat (first|apply nB|apply dB|apply aB));refine blk_put (cs:=#[.int .i64 ((rd_T27 t378 t394).f0),.int .i64 ((rd_T27 t378 t394).f1),.int .i64 t387]) ?_ 2 _ rfl;(with_reducible repeat (first|apply nB|apply dB|apply aB));refine blk_put (cs:=#[.int .i64 ((rd_T27 t378 t394).f0),.int .i64 t384,.int .i64 t387]) ?_ 1 _ rfl;(with_reducible repeat (first|apply nB|apply dB|apply aB));refine blk_put (cs:=#[.int .i64 t381,.int .i64 t384,.int .i64 t387]) ?_ 0 _ rfl;(with_reducible repeat (first|apply nB|apply dB|apply aB));exact BK390.out) NB390_0.out (by simp));replace HK:=mk0 (KeepBut.trans (by repeat (first|(with_reducible first|exact HK.out|apply KeepBut.set_|apply keep_drewN|apply keep_drew|apply keep_alloc|refine keep_far ?_ GW377.out _|refine keep_far ?_ GW390.out _)|exact HK.out)) hk (.inl rfl));replace HB:=mk0 (hb);replace HI0:=mk0 (hi);(try clear hb);(try clear hk);(try clear hi)))
    have pi410:(0 ≤ (t407:Int)) = True:=eq_true (of_decide_eq_true (by first|(with_reducible assumption)|assumption))
    have qi410:(t407 < (y404.length:Int)) = True:=eq_true (of_decide_eq_true (by first|(with_reducible assumption)|assumption))
    replace HO_5:=mk0 (dR HO_5.out)
    replace BK377:=mk0 (dB BK377.out)
    replace BK390:=mk0 (dB BK390.out)
    replace HI0:=mk0 (IsS71.drew HI0.out)
    replace HK:=mk0 (keep_drew HK.out)
    replace HB:=mk0 (dZ HB.out)
    refine start_ (n:=12) (S:=fun w'=>w'.cell? ⟨gb390,0,none⟩ = some (.int .i64 ((rd_T27 t378 t394).f0)) ∧ w'.cell? ⟨gb390,1,none⟩ = some (.int .i64 ((rd_T27 t378 t394).f1)) ∧ w'.cell? ⟨gb390,2,none⟩ = some (.int .i64 ((rd_T27 t378 t394).f2))) (ds:=[11]) spec_l01Cur_stretch.m0 (by kernel_rfl) rfl rfl (ck3 BK390.out) (fun hHeld=>?_);refine with_tabW spec_l01Cur_stretch.tab7 spec_l01Cur_stretch.bits7 (fun HT_ HW_=>?_)
    generalize w38.drew = w39 at HO_5 BK377 BK390 HI0 HK HB hHeld ⊢
    refine pure_ (i:=0) (N:=some 36) (v:=?_) (a':=?_) spec_l01Cur_stretch.m1 rfl rfl (any_of HT_.out (by kernel_rfl)) (fun _ _ _ h=>h) (Or.inl ⟨by rfl,?_⟩) ?_ ?_
    rotate_left
    ·intro w'
     go_simp
     with_reducible rfl
    rotate_left
    ·simp only [Act.put,sA,sO,sS,i64_w,i32_w]
     rfl
    refine pure_ (i:=2) (N:=some 38) (v:=?_) (a':=?_) spec_l01Cur_stretch.m2 rfl rfl (any_of HT_.out (by kernel_rfl)) (fun _ _ _ h=>h) (Or.inl ⟨by rfl,?_⟩) ?_ ?_
    rotate_left
    ·intro w'
     go_simp
     with_reducible rfl
    rotate_left
    ·simp only [Act.put,sA,sO,sS,i64_w,i32_w]
     rfl
    refine pure_ (i:=6) (N:=some 42) (v:=?_) (a':=?_) spec_l01Cur_stretch.m3 rfl rfl (any_of HT_.out (by kernel_rfl)) (fun _ _ _ h=>h) (Or.inl ⟨by rfl,?_⟩) ?_ ?_
    rotate_left
    ·intro w'
     go_simp
     with_reducible rfl
    rotate_left
    ·simp only [Act.put,sA,sO,sS,i64_w,i32_w]
     rfl
    refine take_ (i:=3) (N:=some 39) (v:=?_) (a':=?_) spec_l01Cur_stretch.m4 rfl rfl (take_ofW HT_.out HW_.out (by kernel_rfl)) (fun _ _ _ h=>h) (Or.inl ⟨by rfl,?_⟩) hHeld ?_ ?_
    rotate_left
    ·rintro w' ⟨s0,s1,s2⟩
     go_simp
     with_reducible rfl
    rotate_left
    ·simp only [Act.put,sA,sO,sS,i64_w,i32_w]
     rfl
    refine pure_ (i:=4) (N:=some 40) (v:=?_) (a':=?_) spec_l01Cur_stretch.m5 rfl rfl (any_of HT_.out (by kernel_rfl)) (fun _ _ _ h=>h) (Or.inl ⟨by rfl,?_⟩) ?_ ?_
    rotate_left
    ·intro w'
     go_simp
     with_reducible rfl
    rotate_left
    ·simp only [Act.put,sA,sO,sS,i64_w,i32_w]
     rfl
    refine one_ (i:=1) (N:=some 37) spec_l01Cur_stretch.m6 rfl rfl (one_of HT_.out (by kernel_rfl)) (by decide) (fun K hK=>?_)
    refine goes_ Try.func78 (by kernel_rfl) rfl #[.pointer (some ⟨g,0,none⟩)] (by rfl) rfl rfl (by (try simp only [mA,mC,mN]);first|done|rfl|(simp only [lD,lT];done)|(simp only [lD,lT];rfl)) ?_
    with_reducible refine (spec_l01Cur_raw.calls g s0_0 t399 t400 t401 t402 t403 w0 _ ?side1 ?side2 A29.out).mono ?_
    (case side1=>repeat (first|(with_reducible first|exact HI0.out|apply IsS71.alloc|apply IsS71.drewN|apply IsS71.drew|apply IsS71.set_1|apply IsS71.set_2|refine IsS71.far ?_ NB0_377.out _|refine IsS71.far ?_ NB0_390.out _)|exact HI0.out))
    (case side2=>repeat (first|(with_reducible first|exact HB.out|apply aZ|apply nZ|apply dZ|refine sZ ?_ (IsS71.ge HI0.out)|refine sZ ?_ GE377.out|refine sZ ?_ GE390.out)|exact HB.out))
    rintro e w40 ⟨rfl,hi,hb,hk⟩
    refine⟨_,rfl,?_⟩
    replace HO_5:=mk0 (Kd.R_mono (Kd.R_keep (IsS71.apart (show IsS71 w0 _ g s0_0 t399 t400 from by repeat (first|(with_reducible first|exact HI0.out|apply IsS71.alloc|apply IsS71.drewN|apply IsS71.drew|apply IsS71.set_1|apply IsS71.set_2|refine IsS71.far ?_ NB0_377.out _|refine IsS71.far ?_ NB0_390.out _)|exact HI0.out)) (rR HO_5.out) (by decide)) hk (fun _ h=>h.2)) (fun _ h=>h.1))
    replace BK377:=mk0 (KeepBut.blk hk (g':=gb377) (o:=.cells #[.int .i64 0,.int .i64 0,.int .i64 0] 27 (0,0)) (kN BK377.out) NB377_0.out (by simp))
    replace BK390:=mk0 (KeepBut.blk hk (g':=gb390) (o:=.cells #[.int .i64 ((rd_T27 t378 t394).f0),.int .i64 ((rd_T27 t378 t394).f1),.int .i64 ((rd_T27 t378 t394).f2)] 27 (0,0)) (kN BK390.out) NB390_0.out (by simp))
    replace HK:=mk0 (KeepBut.trans (by repeat (first|(with_reducible first|exact HK.out|apply KeepBut.set_|apply keep_drewN|apply keep_drew|apply keep_alloc|refine keep_far ?_ GW377.out _|refine keep_far ?_ GW390.out _)|exact HK.out)) hk (.inl rfl))
    replace HB:=mk0 (hb)
    replace HI0:=mk0 (hi)
    (try clear hb)
    (try clear hk)
    (try clear hi)
    refine hK.out _ _ (ck3 BK390.out) (fun hHeld=>?_)
    clear hK K
    refine norm_ (a':=?_) ?_ ?_
    rotate_left
    ·show Act.put _ (some 37) _ = _
     simp only [Act.put,sA,sO,sS,i64_w,i32_w]
     rfl
    refine join_ (σ:=Value × Addr) 4 spec_l01Cur_stretch.m7 (fun s_=>[(41,s_.1),(43,.int .i64 t407)]) (fun s_ w'=>(w'.cell? ⟨gb390,0,none⟩ = some (.int .i64 ((rd_T27 t378 t394).f0)) ∧ w'.cell? ⟨gb390,1,none⟩ = some (.int .i64 ((rd_T27 t378 t394).f1)) ∧ w'.cell? ⟨gb390,2,none⟩ = some (.int .i64 ((rd_T27 t378 t394).f2))) ∧ (Kd.R (Kd.int .i64) 3 w' w.heap.size (fun _=>True) s_.1 y404) ∧ (Kd.R k27 27 w' w.heap.size (fun k_=>k_ ≠ gb377 ∧ k_ ≠ gb390) (.slice (some ad397) t378.length co33) t378) ∧ (∃ c_,(s_.1:Value) = .slice (some s_.2) y404.length c_) ∧ (w'.heap[gb377]? = some (.cells #[.int .i64 0,.int .i64 0,.int .i64 0] 27 (0,0))) ∧ (w'.heap[gb390]? = some (.cells #[.int .i64 ((rd_T27 t378 t394).f0),.int .i64 ((rd_T27 t378 t394).f1),.int .i64 ((rd_T27 t378 t394).f2)] 27 (0,0))) ∧ (IsS71 w0 w' g s0_0 t408 t409) ∧ (KeepBut w w' g none) ∧ (Below w0.heap.size w0 w')) ?_ ?_
    rotate_left
    ·intro hCont
     refine two_ (i:=5) (j:=7) (Ni:=some 41) (Nj:=some 43) spec_l01Cur_stretch.m8 spec_l01Cur_stretch.m9 rfl rfl rfl rfl (two_of HT_.out (by kernel_rfl)) (by decide) (by decide) (fun K hK=>?_) (fun K hK=>?_)
     ·skip
      refine Kd.R_lit_step (Kd.int .i64) _ 3 ?hg (N:=41) ?hd (xs:=([t401,wrap64 (((rd_T27 t378 t394).f2) + 1)]:List Int)) (inner:=[.int .i64 t401,.int .i64 (wrap64 (((rd_T27 t378 t394).f2) + 1))]) (ok:=fun _=>True) (okp:=fun _=>True) ?hr ?hp (fun _ hk=>hk) trivial (Below.refl _ _) (Nat.le_refl _) (by simp) ?_;(case hd=>rfl);(case hg=>rfl);(case hr=>first|(go_simp;done)|(go_simp;rfl));(case hp=>exact (Reps.one (show Kd.M (Kd.int .i64) _ _ _ t401 [.int .i64 t401] from rfl) (Reps.one (show Kd.M (Kd.int .i64) _ _ _ (wrap64 (((rd_T27 t378 t394).f2) + 1)) [.int .i64 (wrap64 (((rd_T27 t378 t394).f2) + 1))] from rfl) (Reps.none _ _))))
      intro v405 w41 ho42 hb hg_ hnew_
      clear hg_ hnew_
      (first|rw [← Ny404.out] at ho42|(simp only [Int.reduceToNat] at ho42;rw [← Ny404.out] at ho42))
      replace HO_5:=mk0 (bR HO_5.out hb)
      have HO406:=mk0 (Kd.R_lower ho42 (keep_size (w:=w) (g:=g) (row:=none) (by repeat (first|(with_reducible first|exact HK.out|apply KeepBut.set_|apply keep_drewN|apply keep_drew|apply keep_alloc|refine keep_far ?_ GW377.out _|refine keep_far ?_ GW390.out _)|exact HK.out))))
      replace BK377:=mk0 (kK BK377.out hb)
      replace BK390:=mk0 (kK BK390.out hb)
      replace HK:=mk0 (KeepBut.trans (by repeat (first|(with_reducible first|exact HK.out|apply KeepBut.set_|apply keep_drewN|apply keep_drew|apply keep_alloc|refine keep_far ?_ GW377.out _|refine keep_far ?_ GW390.out _)|exact HK.out)) (KeepBut.of_below hb g none) (.inl rfl))
      replace HB:=mk0 (below_step (by repeat (first|(with_reducible first|exact HB.out|apply aZ|apply nZ|apply dZ|refine sZ ?_ (IsS71.ge HI0.out)|refine sZ ?_ GE377.out|refine sZ ?_ GE390.out)|exact HB.out)) hb)
      replace HI0:=mk0 (IsS71.below (by repeat (first|(with_reducible first|exact HI0.out|apply IsS71.alloc|apply IsS71.drewN|apply IsS71.drew|apply IsS71.set_1|apply IsS71.set_2|refine IsS71.far ?_ NB0_377.out _|refine IsS71.far ?_ NB0_390.out _)|exact HI0.out)) hb)
      clear hb ho42
      obtain⟨Ao43,co43,eo43⟩:=Kd.R_slice HO406.out
      subst eo43
      obtain⟨ado43,fo43,_⟩:=Kd.at_int (Kd.R_reads' HO406.out).2.2 0 (by decide) (by rw [Ny404.out];simp)
      cases fo43
      refine hK.out _ _ (ck3 BK390.out) (fun hHeld=>?_)
      clear hK K
      refine norm_ (a':=?_) ?_ ?_
      rotate_left
      ·show Act.put _ (some 41) _ = _
       simp only [Act.put,sA,sO,sS,i64_w,i32_w]
       rfl
      refine one_ (i:=7) (N:=some 43) spec_l01Cur_stretch.m7 rfl rfl (one_of HT_.out (by kernel_rfl)) (by decide) (fun K hK=>?_)
      refine goes_ Try.func75 (by kernel_rfl) rfl #[.pointer (some ⟨g,0,none⟩),.int .i64 2] (by rfl) rfl rfl (by (try simp only [mA,mC,mN]);first|done|rfl|(simp only [lD,lT];done)|(simp only [lD,lT];rfl)) ?_
      with_reducible refine (spec_l01Cur_pick.calls g s0_0 t402 t403 2 t407 t408 t409 w0 _ ?side1 ?side2 A30.out).mono ?_
      (case side1=>repeat (first|(with_reducible first|exact HI0.out|apply IsS71.alloc|apply IsS71.drewN|apply IsS71.drew|apply IsS71.set_1|apply IsS71.set_2|refine IsS71.far ?_ NB0_377.out _|refine IsS71.far ?_ NB0_390.out _)|exact HI0.out))
      (case side2=>repeat (first|(with_reducible first|exact HB.out|apply aZ|apply nZ|apply dZ|refine sZ ?_ (IsS71.ge HI0.out)|refine sZ ?_ GE377.out|refine sZ ?_ GE390.out)|exact HB.out))
      rintro e w44 ⟨rfl,hi,hb,hk⟩
      refine⟨_,rfl,?_⟩
      replace HO_5:=mk0 (Kd.R_mono (Kd.R_keep (IsS71.apart (show IsS71 w0 _ g s0_0 t402 t403 from by repeat (first|(with_reducible first|exact HI0.out|apply IsS71.alloc|apply IsS71.drewN|apply IsS71.drew|apply IsS71.set_1|apply IsS71.set_2|refine IsS71.far ?_ NB0_377.out _|refine IsS71.far ?_ NB0_390.out _)|exact HI0.out)) (rR HO_5.out) (by decide)) hk (fun _ h=>h.2)) (fun _ h=>h.1))
      replace BK377:=mk0 (KeepBut.blk hk (g':=gb377) (o:=.cells #[.int .i64 0,.int .i64 0,.int .i64 0] 27 (0,0)) (kN BK377.out) NB377_0.out (by simp))
      replace BK390:=mk0 (KeepBut.blk hk (g':=gb390) (o:=.cells #[.int .i64 ((rd_T27 t378 t394).f0),.int .i64 ((rd_T27 t378 t394).f1),.int .i64 ((rd_T27 t378 t394).f2)] 27 (0,0)) (kN BK390.out) NB390_0.out (by simp))
      replace HO406:=mk0 (Kd.R_mono (Kd.R_keep (IsS71.apart (show IsS71 w0 _ g s0_0 t402 t403 from by repeat (first|(with_reducible first|exact HI0.out|apply IsS71.alloc|apply IsS71.drewN|apply IsS71.drew|apply IsS71.set_1|apply IsS71.set_2|refine IsS71.far ?_ NB0_377.out _|refine IsS71.far ?_ NB0_390.out _)|exact HI0.out)) (rR HO406.out) (by decide)) hk (fun _ h=>h.2)) (fun _ h=>h.1))
      replace HK:=mk0 (KeepBut.trans (by repeat (first|(with_reducible first|exact HK.out|apply KeepBut.set_|apply keep_drewN|apply keep_drew|apply keep_alloc|refine keep_far ?_ GW377.out _|refine keep_far ?_ GW390.out _)|exact HK.out)) hk (.inl rfl))
      replace HB:=mk0 (hb)
      replace HI0:=mk0 (hi)
      (try clear hb)
      (try clear hk)
      (try clear hi)
      refine hK.out _ _ (ck3 BK390.out) (fun hHeld=>?_)
      clear hK K
      refine norm_ (a':=?_) ?_ ?_
      rotate_left
      ·show Act.put _ (some 43) _ = _
       simp only [Act.put,sA,sO,sS,i64_w,i32_w]
       rfl
      exact norm_ (by simp only [putAll,Act.put,sA,sO,sS]) (hCont (.slice (some ado43) y404.length co43,ado43) _ ⟨hHeld,(rR HO406.out),(rR HO_5.out),⟨_,rfl⟩,(kN BK377.out),(kN BK390.out),(by repeat (first|(with_reducible first|exact HI0.out|apply IsS71.alloc|apply IsS71.drewN|apply IsS71.drew|apply IsS71.set_1|apply IsS71.set_2|refine IsS71.far ?_ NB0_377.out _|refine IsS71.far ?_ NB0_390.out _)|exact HI0.out)),(by repeat (first|(with_reducible first|exact HK.out|apply KeepBut.set_|apply keep_drewN|apply keep_drew|apply keep_alloc|refine keep_far ?_ GW377.out _|refine keep_far ?_ GW390.out _)|exact HK.out)),(by repeat (first|(with_reducible first|exact HB.out|apply aZ|apply nZ|apply dZ|refine sZ ?_ (IsS71.ge HI0.out)|refine sZ ?_ GE377.out|refine sZ ?_ GE390.out)|exact HB.out))⟩)
     ·skip
      refine goes_ Try.func75 (by kernel_rfl) rfl #[.pointer (some ⟨g,0,none⟩),.int .i64 2] (by rfl) rfl rfl (by (try simp only [mA,mC,mN]);first|done|rfl|(simp only [lD,lT];done)|(simp only [lD,lT];rfl)) ?_
      with_reducible refine (spec_l01Cur_pick.calls g s0_0 t402 t403 2 t407 t408 t409 w0 _ ?side1 ?side2 A30.out).mono ?_
      (case side1=>repeat (first|(with_reducible first|exact HI0.out|apply IsS71.alloc|apply IsS71.drewN|apply IsS71.drew|apply IsS71.set_1|apply IsS71.set_2|refine IsS71.far ?_ NB0_377.out _|refine IsS71.far ?_ NB0_390.out _)|exact HI0.out))
      (case side2=>repeat (first|(with_reducible first|exact HB.out|apply aZ|apply nZ|apply dZ|refine sZ ?_ (IsS71.ge HI0.out)|refine sZ ?_ GE377.out|refine sZ ?_ GE390.out)|exact HB.out))
      rintro e w41 ⟨rfl,hi,hb,hk⟩
      refine⟨_,rfl,?_⟩
      replace HO_5:=mk0 (Kd.R_mono (Kd.R_keep (IsS71.apart (show IsS71 w0 _ g s0_0 t402 t403 from by repeat (first|(with_reducible first|exact HI0.out|apply IsS71.alloc|apply IsS71.drewN|apply IsS71.drew|apply IsS71.set_1|apply IsS71.set_2|refine IsS71.far ?_ NB0_377.out _|refine IsS71.far ?_ NB0_390.out _)|exact HI0.out)) (rR HO_5.out) (by decide)) hk (fun _ h=>h.2)) (fun _ h=>h.1))
      replace BK377:=mk0 (KeepBut.blk hk (g':=gb377) (o:=.cells #[.int .i64 0,.int .i64 0,.int .i64 0] 27 (0,0)) (kN BK377.out) NB377_0.out (by simp))
      replace BK390:=mk0 (KeepBut.blk hk (g':=gb390) (o:=.cells #[.int .i64 ((rd_T27 t378 t394).f0),.int .i64 ((rd_T27 t378 t394).f1),.int .i64 ((rd_T27 t378 t394).f2)] 27 (0,0)) (kN BK390.out) NB390_0.out (by simp))
      replace HK:=mk0 (KeepBut.trans (by repeat (first|(with_reducible first|exact HK.out|apply KeepBut.set_|apply keep_drewN|apply keep_drew|apply keep_alloc|refine keep_far ?_ GW377.out _|refine keep_far ?_ GW390.out _)|exact HK.out)) hk (.inl rfl))
      replace HB:=mk0 (hb)
      replace HI0:=mk0 (hi)
      (try clear hb)
      (try clear hk)
      (try clear hi)
      refine hK.out _ _ (ck3 BK390.out) (fun hHeld=>?_)
      clear hK K
      refine norm_ (a':=?_) ?_ ?_
      rotate_left
      ·show Act.put _ (some 43) _ = _
       simp only [Act.put,sA,sO,sS,i64_w,i32_w]
       rfl
      refine one_ (i:=5) (N:=some 41) spec_l01Cur_stretch.m7 rfl rfl (one_of HT_.out (by kernel_rfl)) (by decide) (fun K hK=>?_)
      refine Kd.R_lit_step (Kd.int .i64) _ 3 ?hg (N:=41) ?hd (xs:=([t401,wrap64 (((rd_T27 t378 t394).f2) + 1)]:List Int)) (inner:=[.int .i64 t401,.int .i64 (wrap64 (((rd_T27 t378 t394).f2) + 1))]) (ok:=fun _=>True) (okp:=fun _=>True) ?hr ?hp (fun _ hk=>hk) trivial (Below.refl _ _) (Nat.le_refl _) (by simp) ?_;(case hd=>rfl);(case hg=>rfl);(case hr=>first|(go_simp;done)|(go_simp;rfl));(case hp=>exact (Reps.one (show Kd.M (Kd.int .i64) _ _ _ t401 [.int .i64 t401] from rfl) (Reps.one (show Kd.M (Kd.int .i64) _ _ _ (wrap64 (((rd_T27 t378 t394).f2) + 1)) [.int .i64 (wrap64 (((rd_T27 t378 t394).f2) + 1))] from rfl) (Reps.none _ _))))
      intro v405 w42 ho43 hb hg_ hnew_
      clear hg_ hnew_
      (first|rw [← Ny404.out] at ho43|(simp only [Int.reduceToNat] at ho43;rw [← Ny404.out] at ho43))
      replace HO_5:=mk0 (bR HO_5.out hb)
      have HO406:=mk0 (Kd.R_lower ho43 (keep_size (w:=w) (g:=g) (row:=none) (by repeat (first|(with_reducible first|exact HK.out|apply KeepBut.set_|apply keep_drewN|apply keep_drew|apply keep_alloc|refine keep_far ?_ GW377.out _|refine keep_far ?_ GW390.out _)|exact HK.out))))
      replace BK377:=mk0 (kK BK377.out hb)
      replace BK390:=mk0 (kK BK390.out hb)
      replace HK:=mk0 (KeepBut.trans (by repeat (first|(with_reducible first|exact HK.out|apply KeepBut.set_|apply keep_drewN|apply keep_drew|apply keep_alloc|refine keep_far ?_ GW377.out _|refine keep_far ?_ GW390.out _)|exact HK.out)) (KeepBut.of_below hb g none) (.inl rfl))
      replace HB:=mk0 (below_step (by repeat (first|(with_reducible first|exact HB.out|apply aZ|apply nZ|apply dZ|refine sZ ?_ (IsS71.ge HI0.out)|refine sZ ?_ GE377.out|refine sZ ?_ GE390.out)|exact HB.out)) hb)
      replace HI0:=mk0 (IsS71.below (by repeat (first|(with_reducible first|exact HI0.out|apply IsS71.alloc|apply IsS71.drewN|apply IsS71.drew|apply IsS71.set_1|apply IsS71.set_2|refine IsS71.far ?_ NB0_377.out _|refine IsS71.far ?_ NB0_390.out _)|exact HI0.out)) hb)
      clear hb ho43
      obtain⟨Ao44,co44,eo44⟩:=Kd.R_slice HO406.out
      subst eo44
      obtain⟨ado44,fo44,_⟩:=Kd.at_int (Kd.R_reads' HO406.out).2.2 0 (by decide) (by rw [Ny404.out];simp)
      cases fo44
      refine hK.out _ _ (ck3 BK390.out) (fun hHeld=>?_)
      clear hK K
      refine norm_ (a':=?_) ?_ ?_
      rotate_left
      ·show Act.put _ (some 41) _ = _
       simp only [Act.put,sA,sO,sS,i64_w,i32_w]
       rfl
      exact norm_ (by simp only [putAll,Act.put,sA,sO,sS]) (hCont (.slice (some ado44) y404.length co44,ado44) _ ⟨hHeld,(rR HO406.out),(rR HO_5.out),⟨_,rfl⟩,(kN BK377.out),(kN BK390.out),(by repeat (first|(with_reducible first|exact HI0.out|apply IsS71.alloc|apply IsS71.drewN|apply IsS71.drew|apply IsS71.set_1|apply IsS71.set_2|refine IsS71.far ?_ NB0_377.out _|refine IsS71.far ?_ NB0_390.out _)|exact HI0.out)),(by repeat (first|(with_reducible first|exact HK.out|apply KeepBut.set_|apply keep_drewN|apply keep_drew|apply keep_alloc|refine keep_far ?_ GW377.out _|refine keep_far ?_ GW390.out _)|exact HK.out)),(by repeat (first|(with_reducible first|exact HB.out|apply aZ|apply nZ|apply dZ|refine sZ ?_ (IsS71.ge HI0.out)|refine sZ ?_ GE377.out|refine sZ ?_ GE390.out)|exact HB.out))⟩)
    rintro⟨v405,adz_v405⟩ w45 ⟨hS_,h0_,h1_,h2_,h3_,h4_,h5_,h6_,h7_⟩
    have n0_:Aside0 (Kd.R (Kd.int .i64) 3 w45 w.heap.size (fun _=>True) v405 y404):=⟨h0_⟩
    have n1_:Aside0 (Kd.R k27 27 w45 w.heap.size (fun k_=>k_ ≠ gb377 ∧ k_ ≠ gb390) (.slice (some ad397) t378.length co33) t378):=⟨h1_⟩
    have n2_:Aside0 (∃ c_,(v405:Value) = .slice (some adz_v405) y404.length c_):=⟨h2_⟩
    have n3_:Aside0 (w45.heap[gb377]? = some (.cells #[.int .i64 0,.int .i64 0,.int .i64 0] 27 (0,0))):=⟨h3_⟩
    have n4_:Aside0 (w45.heap[gb390]? = some (.cells #[.int .i64 ((rd_T27 t378 t394).f0),.int .i64 ((rd_T27 t378 t394).f1),.int .i64 ((rd_T27 t378 t394).f2)] 27 (0,0))):=⟨h4_⟩
    have n5_:Aside0 (IsS71 w0 w45 g s0_0 t408 t409):=⟨h5_⟩
    have n6_:Aside0 (KeepBut w w45 g none):=⟨h6_⟩
    have n7_:Aside0 (Below w0.heap.size w0 w45):=⟨h7_⟩
    clear HO_5
    clear BK377
    clear BK390
    clear HI0
    clear HK
    clear HB
    clear h0_ h1_ h2_ h3_ h4_ h5_ h6_ h7_
    have HO406:=n0_
    have HO_5:=n1_
    have HA_HO406:=n2_
    have BK377:=n3_
    have BK390:=n4_
    have HI0:=n5_
    have HK:=n6_
    have HB:=n7_
    clear n0_ n1_ n2_ n3_ n4_ n5_ n6_ n7_
    have hHeld:w45.cell? ⟨gb390,0,none⟩ = some (.int .i64 ((rd_T27 t378 t394).f0)) ∧ w45.cell? ⟨gb390,1,none⟩ = some (.int .i64 ((rd_T27 t378 t394).f1)) ∧ w45.cell? ⟨gb390,2,none⟩ = some (.int .i64 ((rd_T27 t378 t394).f2)):=hS_
    obtain⟨co46,eo46⟩:=HA_HO406.out
    clear HA_HO406
    subst eo46
    refine norm_ (a':=?_) ?_ ?_
    rotate_left
    ·simp only [putAll,Act.put,sA,sO,sS]
     rfl
    refine pure_ (i:=8) (N:=some 44) (v:=?_) (a':=?_) spec_l01Cur_stretch.m10 rfl rfl (any_of HT_.out (by kernel_rfl)) (fun _ _ _ h=>h) (Or.inl ⟨by rfl,?_⟩) ?_ ?_
    rotate_left
    ·intro w'
     go_simp
     with_reducible rfl
    rotate_left
    ·simp only [Act.put,sA,sO,sS,i64_w,i32_w]
     rfl
    refine one_ (i:=9) (N:=some 45) spec_l01Cur_stretch.m11 rfl rfl (one_of HT_.out (by kernel_rfl)) (by decide) (fun K hK=>?_)
    (have p410:0 ≤ (t407:Int):=of_decide_eq_true (by first|(with_reducible assumption)|assumption);have q410:t407 < (y404.length:Int):=of_decide_eq_true (by first|(with_reducible assumption)|assumption);obtain⟨ad410,e410,hx410_0⟩:=Kd.at_int (Kd.R_reads' HO406.out).2.2 t407 p410 q410;obtain rfl:adz_v405 = ad410:=(by injection e410))
    refine value_ (w1:=?_) (v:=?_) (by rfl) rfl ?_ ?_
    rotate_left 2
    ·go_simp
     constructor
     ·rfl
     ·rfl
    clear hx410_0
    refine hK.out _ _ (ck3 BK390.out) (fun hHeld=>?_)
    clear hK K
    refine norm_ (a':=?_) ?_ ?_
    rotate_left
    ·show Act.put _ (some 45) _ = _
     simp only [Act.put,sA,sO,sS,i64_w,i32_w]
     rfl
    refine pure_ (i:=10) (N:=some 46) (v:=?_) (a':=?_) spec_l01Cur_stretch.m12 rfl rfl (any_of HT_.out (by kernel_rfl)) (fun _ _ _ h=>h) (Or.inl ⟨by rfl,?_⟩) ?_ ?_
    rotate_left
    ·intro w'
     go_simp
     with_reducible rfl
    rotate_left
    ·simp only [Act.put,sA,sO,sS,i64_w,i32_w]
     rfl
    refine last_ (i:=11) (N:=none) spec_l01Cur_stretch.m13 rfl rfl (one_of HT_.out (by kernel_rfl)) (by decide) (fun K hK=>?_)
    have hs47:w45.cell? ⟨gb390,2,none⟩ = some (.int .i64 ((rd_T27 t378 t394).f2)):=(blk_cell BK390.out 2).trans rfl
    have hfs47:=blk_frozen BK390.out 2
    have hns47_0:=NB377_390.out
    have hms47_0:=NB390_377.out
    refine skip_ (w1:=?_) (by rfl) rfl ?_ ?_
    rotate_left
    ·go_simp
     rfl
    refine hK.out _ _ ?_
    clear hK K
    refine done_ (done_of HT_.out (by kernel_rfl)) ?_
    obtain⟨hcz48_0,hcz48_1,hcz48_2,hfz48_0,hfz48_1,hfz48_2⟩:=cz3 BK390.out
    have hnb49:=NB377_0.out
    have hnc49:=NB0_377.out
    obtain⟨hcz50_0,hcz50_1,hcz50_2,hfz50_0,hfz50_1,hfz50_2⟩:=cz3 BK377.out
    try go_wp2
    refine bodyPost_ret (results_cell_row rfl _ _ gb377 27 #[.int .i64 ((rd_T27 t378 t394).f0),.int .i64 ((rd_T27 t378 t394).f1),.int .i64 (rd y404 t407)] (0,0) _ rfl (by (with_reducible repeat (first|apply nB|apply dB|apply aB));refine blk_put (cs:=#[.int .i64 ((rd_T27 t378 t394).f0),.int .i64 ((rd_T27 t378 t394).f1),.int .i64 0]) ?_ 2 _ rfl;(with_reducible repeat (first|apply nB|apply dB|apply aB));refine blk_put (cs:=#[.int .i64 ((rd_T27 t378 t394).f0),.int .i64 0,.int .i64 0]) ?_ 1 _ rfl;(with_reducible repeat (first|apply nB|apply dB|apply aB));refine blk_put (cs:=#[.int .i64 0,.int .i64 0,.int .i64 0]) ?_ 0 _ rfl;(with_reducible repeat (first|apply nB|apply dB|apply aB));refine blk_far ?_ NB377_390.out _;(with_reducible repeat (first|apply nB|apply dB|apply aB));exact BK377.out) Try.underlying27 rfl (by kernel_rfl)) rfl ?_
    exact⟨by first|rfl|(simp [errW_none,errW_some] <;> rfl)|(simp only [← hji23];first|rfl|(simp [errW_none,errW_some] <;> rfl))|(simp [*,errW_none,errW_some] <;> rfl),by repeat (first|(with_reducible first|exact HI0.out|apply IsS71.alloc|apply IsS71.drewN|apply IsS71.drew|apply IsS71.set_1|apply IsS71.set_2|refine IsS71.far ?_ NB0_377.out _|refine IsS71.far ?_ NB0_390.out _)|exact HI0.out),by repeat (first|(with_reducible first|exact HB.out|apply aZ|apply nZ|apply dZ|refine sZ ?_ (IsS71.ge HI0.out)|refine sZ ?_ GE377.out|refine sZ ?_ GE390.out)|exact HB.out),by repeat (first|(with_reducible first|exact HK.out|apply KeepBut.set_|apply keep_drewN|apply keep_drew|apply keep_alloc|refine keep_far ?_ GW377.out _|refine keep_far ?_ GW390.out _)|exact HK.out)⟩
   rw [if_neg c28] at H
   have c28b0:(t398 == 0) = false:=beq_eq_false_iff_ne.mpr c28
   have c28b1:(t398 != 0) = true:=bne_iff_ne.mpr c28
   by_cases c51:t398 = 1
   rotate_left
   ·rw [if_neg c51] at H
    have c51b0:(t398 == 1) = false:=beq_eq_false_iff_ne.mpr c51
    have c51b1:(t398 != 1) = true:=bne_iff_ne.mpr c51
    by_cases c74:t398 = 2
    rotate_left
    ·rw [if_neg c74] at H
     have c74b0:(t398 == 2) = false:=beq_eq_false_iff_ne.mpr c74
     have c74b1:(t398 != 2) = true:=bne_iff_ne.mpr c74
     simp only [Option.some.injEq,Prod.mk.injEq] at H
     obtain⟨rfl,rfl,rfl,rfl,rfl⟩:=H
     obtain⟨Ao86,co86,eo86⟩:=Kd.R_slice HO_5.out
     subst eo86
     go_wp2_with (first|((with_reducible refine gate_callee (f:=75) rfl ?_);refine goesL_ (some 29) rfl rfl Try.func75 (by kernel_rfl) rfl #[.pointer (some ⟨g,0,none⟩),.int .i64 ji23] rfl (by (try simp only [mA,mC,mN]);first|done|(simp only [hji23];rfl)|rfl|(simp only [lD,lT];done)|(simp only [lD,lT];rfl)) ?_;(with_reducible refine (spec_l01Cur_pick.calls g s0_0 x1001_6 x1002_6 ji23 t394 t395 t396 w0 _ ?side1 ?side2 A24.out).mono ?_);(case side1=>repeat (first|(with_reducible first|exact HI0.out|apply IsS71.alloc|apply IsS71.drewN|apply IsS71.drew|apply IsS71.set_1|apply IsS71.set_2|refine IsS71.far ?_ NB0_377.out _|refine IsS71.far ?_ NB0_390.out _)|exact HI0.out));(case side2=>repeat (first|(with_reducible first|exact HB.out|apply aZ|apply nZ|apply dZ|refine sZ ?_ (IsS71.ge HI0.out)|refine sZ ?_ GE377.out|refine sZ ?_ GE390.out)|exact HB.out));rintro e w87 ⟨rfl,hi,hb,hk⟩;refine⟨_,rfl,?_⟩;replace HO_5:=mk0 (Kd.R_mono (Kd.R_keep (IsS71.apart (show IsS71 w0 _ g s0_0 x1001_6 x1002_6 from by repeat (first|(with_reducible first|exact HI0.out|apply IsS71.alloc|apply IsS71.drewN|apply IsS71.drew|apply IsS71.set_1|apply IsS71.set_2|refine IsS71.far ?_ NB0_377.out _|refine IsS71.far ?_ NB0_390.out _)|exact HI0.out)) (rR HO_5.out) (by decide)) hk (fun _ h=>h.2)) (fun _ h=>h.1));replace BK377:=mk0 (KeepBut.blk hk (g':=gb377) (o:=.cells #[.int .i64 0,.int .i64 0,.int .i64 0] 27 (0,0)) (kN BK377.out) NB377_0.out (by simp));replace BK390:=mk0 (KeepBut.blk hk (g':=gb390) (o:=.cells #[.int .i64 t381,.int .i64 t384,.int .i64 t387] 27 (0,0)) (kN BK390.out) NB390_0.out (by simp));replace HK:=mk0 (KeepBut.trans (by repeat (first|(with_reducible first|exact HK.out|apply KeepBut.set_|apply keep_drewN|apply keep_drew|apply keep_alloc|refine keep_far ?_ GW377.out _|refine keep_far ?_ GW390.out _)|exact HK.out)) hk (.inl rfl));replace HB:=mk0 (hb);replace HI0:=mk0 (hi);(try clear hb);(try clear hk);(try clear hi);have p397:0 ≤ (t394:Int):=of_decide_eq_true (by first|(with_reducible assumption)|assumption);have q397:t394 < (t378.length:Int):=of_decide_eq_true (by first|(with_reducible assumption)|assumption);obtain⟨ad397,e397,hx397_0,hx397_1,hx397_2⟩:=at_T27 (Kd.R_reads' HO_5.out).2.2 t394 p397 q397;cases e397;replace p397:=eq_true p397;replace q397:=eq_true q397;have hnb88:=NB390_377.out;have hnc88:=NB377_390.out;have hnb89:=NB390_0.out;have hnc89:=NB0_390.out;obtain⟨hcz90_0,hcz90_1,hcz90_2,hfz90_0,hfz90_1,hfz90_2⟩:=cz3 BK390.out)|((with_reducible refine gate_callee (f:=75) rfl ?_);refine goesL_ (some 33) rfl rfl Try.func75 (by kernel_rfl) rfl #[.pointer (some ⟨g,0,none⟩),.int .i64 9] rfl (by (try simp only [mA,mC,mN]);first|done|rfl|(simp only [lD,lT];done)|(simp only [lD,lT];rfl)) ?_;(with_reducible refine (spec_l01Cur_pick.calls g s0_0 t395 t396 9 t398 t399 t400 w0 _ ?side1 ?side2 A27.out).mono ?_);(case side1=>repeat (first|(with_reducible first|exact HI0.out|apply IsS71.alloc|apply IsS71.drewN|apply IsS71.drew|apply IsS71.set_1|apply IsS71.set_2|refine IsS71.far ?_ NB0_377.out _|refine IsS71.far ?_ NB0_390.out _)|exact HI0.out));(case side2=>repeat (first|(with_reducible first|exact HB.out|apply aZ|apply nZ|apply dZ|refine sZ ?_ (IsS71.ge HI0.out)|refine sZ ?_ GE377.out|refine sZ ?_ GE390.out)|exact HB.out));rintro e w91 ⟨rfl,hi,hb,hk⟩;refine⟨_,rfl,?_⟩;replace HO_5:=mk0 (Kd.R_mono (Kd.R_keep (IsS71.apart (show IsS71 w0 _ g s0_0 t395 t396 from by repeat (first|(with_reducible first|exact HI0.out|apply IsS71.alloc|apply IsS71.drewN|apply IsS71.drew|apply IsS71.set_1|apply IsS71.set_2|refine IsS71.far ?_ NB0_377.out _|refine IsS71.far ?_ NB0_390.out _)|exact HI0.out)) (by (with_reducible repeat (first|apply aR|apply nR|apply dR));exact (Kd.R_mono (Kd.R_far (p:=⟨gb390,2,none⟩) (Kd.R_far (p:=⟨gb390,1,none⟩) (Kd.R_far (p:=⟨gb390,0,none⟩) (Kd.R_mono HO_5.out (fun k_ hk=>(⟨hk,hk.2⟩:_ ∧ k_ ≠ gb390))) (fun _ hk=>hk.2) (.int .i64 ((rd_T27 t378 t394).f0))) (fun _ hk=>hk.2) (.int .i64 ((rd_T27 t378 t394).f1))) (fun _ hk=>hk.2) (.int .i64 ((rd_T27 t378 t394).f2))) (fun _ h_=>h_.1))) (by decide)) hk (fun _ h=>h.2)) (fun _ h=>h.1));replace BK377:=mk0 (KeepBut.blk hk (g':=gb377) (o:=.cells #[.int .i64 0,.int .i64 0,.int .i64 0] 27 (0,0)) (by (with_reducible repeat (first|apply nB|apply dB|apply aB));refine blk_far ?_ NB377_390.out _;(with_reducible repeat (first|apply nB|apply dB|apply aB));refine blk_far ?_ NB377_390.out _;(with_reducible repeat (first|apply nB|apply dB|apply aB));refine blk_far ?_ NB377_390.out _;(with_reducible repeat (first|apply nB|apply dB|apply aB));exact BK377.out) NB377_0.out (by simp));replace BK390:=mk0 (KeepBut.blk hk (g':=gb390) (o:=.cells #[.int .i64 ((rd_T27 t378 t394).f0),.int .i64 ((rd_T27 t378 t394).f1),.int .i64 ((rd_T27 t378 t394).f2)] 27 (0,0)) (by (with_reducible repeat (first|apply nB|apply dB|apply aB));refine blk_put (cs:=#[.int .i64 ((rd_T27 t378 t394).f0),.int .i64 ((rd_T27 t378 t394).f1),.int .i64 t387]) ?_ 2 _ rfl;(with_reducible repeat (first|apply nB|apply dB|apply aB));refine blk_put (cs:=#[.int .i64 ((rd_T27 t378 t394).f0),.int .i64 t384,.int .i64 t387]) ?_ 1 _ rfl;(with_reducible repeat (first|apply nB|apply dB|apply aB));refine blk_put (cs:=#[.int .i64 t381,.int .i64 t384,.int .i64 t387]) ?_ 0 _ rfl;(with_reducible repeat (first|apply nB|apply dB|apply aB));exact BK390.out) NB390_0.out (by simp));replace HK:=mk0 (KeepBut.trans (by repeat (first|(with_reducible first|exact HK.out|apply KeepBut.set_|apply keep_drewN|apply keep_drew|apply keep_alloc|refine keep_far ?_ GW377.out _|refine keep_far ?_ GW390.out _)|exact HK.out)) hk (.inl rfl));replace HB:=mk0 (hb);replace HI0:=mk0 (hi);(try clear hb);(try clear hk);(try clear hi);obtain⟨hcz92_0,hcz92_1,hcz92_2,hfz92_0,hfz92_1,hfz92_2⟩:=cz3 BK390.out;have hnb93:=NB377_0.out;have hnc93:=NB0_377.out;obtain⟨hcz94_0,hcz94_1,hcz94_2,hfz94_0,hfz94_1,hfz94_2⟩:=cz3 BK377.out))
     refine bodyPost_ret (results_cell_row rfl _ _ gb377 27 #[.int .i64 ((rd_T27 t378 t394).f0),.int .i64 ((rd_T27 t378 t394).f1),.int .i64 ((rd_T27 t378 t394).f2)] (0,0) _ rfl (by (with_reducible repeat (first|apply nB|apply dB|apply aB));refine blk_put (cs:=#[.int .i64 ((rd_T27 t378 t394).f0),.int .i64 ((rd_T27 t378 t394).f1),.int .i64 0]) ?_ 2 _ rfl;(with_reducible repeat (first|apply nB|apply dB|apply aB));refine blk_put (cs:=#[.int .i64 ((rd_T27 t378 t394).f0),.int .i64 0,.int .i64 0]) ?_ 1 _ rfl;(with_reducible repeat (first|apply nB|apply dB|apply aB));refine blk_put (cs:=#[.int .i64 0,.int .i64 0,.int .i64 0]) ?_ 0 _ rfl;(with_reducible repeat (first|apply nB|apply dB|apply aB));exact BK377.out) Try.underlying27 rfl (by kernel_rfl)) rfl ?_
     exact⟨by first|rfl|(simp [errW_none,errW_some] <;> rfl)|(simp only [← hji23];first|rfl|(simp [errW_none,errW_some] <;> rfl))|(simp [*,errW_none,errW_some] <;> rfl),by repeat (first|(with_reducible first|exact HI0.out|apply IsS71.alloc|apply IsS71.drewN|apply IsS71.drew|apply IsS71.set_1|apply IsS71.set_2|refine IsS71.far ?_ NB0_377.out _|refine IsS71.far ?_ NB0_390.out _)|exact HI0.out),by repeat (first|(with_reducible first|exact HB.out|apply aZ|apply nZ|apply dZ|refine sZ ?_ (IsS71.ge HI0.out)|refine sZ ?_ GE377.out|refine sZ ?_ GE390.out)|exact HB.out),by repeat (first|(with_reducible first|exact HK.out|apply KeepBut.set_|apply keep_drewN|apply keep_drew|apply keep_alloc|refine keep_far ?_ GW377.out _|refine keep_far ?_ GW390.out _)|exact HK.out)⟩
    rw [if_pos c74] at H
    have c74b0:(t398 == 2) = true:=beq_iff_eq.mpr c74
    have c74b1:(t398 != 2) = false:=bne_eq_false_iff_eq.mpr c74
    clear c74
    replace H:=Option.bind_eq_some_iff.mp H
    obtain⟨⟨t421,t422,t423⟩,A750,H⟩:=H
    replace H:(some (t421,(rd_T27 t378 t394).f1,(rd_T27 t378 t394).f2,t422,t423)) = some (r1,r2,r3,r4,r5):=H
    have A75:=mk0 A750
    clear A750
    simp only [Option.some.injEq,Prod.mk.injEq] at H
    obtain⟨rfl,rfl,rfl,rfl,rfl⟩:=H
    obtain⟨Ao76,co76,eo76⟩:=Kd.R_slice HO_5.out
    subst eo76
    go_wp2_with (first|((with_reducible refine gate_callee (f:=75) rfl ?_);refine goesL_ (some 29) rfl rfl Try.func75 (by kernel_rfl) rfl #[.pointer (some ⟨g,0,none⟩),.int .i64 ji23] rfl (by (try simp only [mA,mC,mN]);first|done|(simp only [hji23];rfl)|rfl|(simp only [lD,lT];done)|(simp only [lD,lT];rfl)) ?_;(with_reducible refine (spec_l01Cur_pick.calls g s0_0 x1001_6 x1002_6 ji23 t394 t395 t396 w0 _ ?side1 ?side2 A24.out).mono ?_);(case side1=>repeat (first|(with_reducible first|exact HI0.out|apply IsS71.alloc|apply IsS71.drewN|apply IsS71.drew|apply IsS71.set_1|apply IsS71.set_2|refine IsS71.far ?_ NB0_377.out _|refine IsS71.far ?_ NB0_390.out _)|exact HI0.out));(case side2=>repeat (first|(with_reducible first|exact HB.out|apply aZ|apply nZ|apply dZ|refine sZ ?_ (IsS71.ge HI0.out)|refine sZ ?_ GE377.out|refine sZ ?_ GE390.out)|exact HB.out));rintro e w77 ⟨rfl,hi,hb,hk⟩;refine⟨_,rfl,?_⟩;replace HO_5:=mk0 (Kd.R_mono (Kd.R_keep (IsS71.apart (show IsS71 w0 _ g s0_0 x1001_6 x1002_6 from by repeat (first|(with_reducible first|exact HI0.out|apply IsS71.alloc|apply IsS71.drewN|apply IsS71.drew|apply IsS71.set_1|apply IsS71.set_2|refine IsS71.far ?_ NB0_377.out _|refine IsS71.far ?_ NB0_390.out _)|exact HI0.out)) (rR HO_5.out) (by decide)) hk (fun _ h=>h.2)) (fun _ h=>h.1));replace BK377:=mk0 (KeepBut.blk hk (g':=gb377) (o:=.cells #[.int .i64 0,.int .i64 0,.int .i64 0] 27 (0,0)) (kN BK377.out) NB377_0.out (by simp));replace BK390:=mk0 (KeepBut.blk hk (g':=gb390) (o:=.cells #[.int .i64 t381,.int .i64 t384,.int .i64 t387] 27 (0,0)) (kN BK390.out) NB390_0.out (by simp));replace HK:=mk0 (KeepBut.trans (by repeat (first|(with_reducible first|exact HK.out|apply KeepBut.set_|apply keep_drewN|apply keep_drew|apply keep_alloc|refine keep_far ?_ GW377.out _|refine keep_far ?_ GW390.out _)|exact HK.out)) hk (.inl rfl));replace HB:=mk0 (hb);replace HI0:=mk0 (hi);(try clear hb);(try clear hk);(try clear hi);have p397:0 ≤ (t394:Int):=of_decide_eq_true (by first|(with_reducible assumption)|assumption);have q397:t394 < (t378.length:Int):=of_decide_eq_true (by first|(with_reducible assumption)|assumption);obtain⟨ad397,e397,hx397_0,hx397_1,hx397_2⟩:=at_T27 (Kd.R_reads' HO_5.out).2.2 t394 p397 q397;cases e397;replace p397:=eq_true p397;replace q397:=eq_true q397;have hnb78:=NB390_377.out;have hnc78:=NB377_390.out;have hnb79:=NB390_0.out;have hnc79:=NB0_390.out;obtain⟨hcz80_0,hcz80_1,hcz80_2,hfz80_0,hfz80_1,hfz80_2⟩:=cz3 BK390.out)|((with_reducible refine gate_callee (f:=75) rfl ?_);refine goesL_ (some 33) rfl rfl Try.func75 (by kernel_rfl) rfl #[.pointer (some ⟨g,0,none⟩),.int .i64 9] rfl (by (try simp only [mA,mC,mN]);first|done|rfl|(simp only [lD,lT];done)|(simp only [lD,lT];rfl)) ?_;(with_reducible refine (spec_l01Cur_pick.calls g s0_0 t395 t396 9 t398 t399 t400 w0 _ ?side1 ?side2 A27.out).mono ?_);(case side1=>repeat (first|(with_reducible first|exact HI0.out|apply IsS71.alloc|apply IsS71.drewN|apply IsS71.drew|apply IsS71.set_1|apply IsS71.set_2|refine IsS71.far ?_ NB0_377.out _|refine IsS71.far ?_ NB0_390.out _)|exact HI0.out));(case side2=>repeat (first|(with_reducible first|exact HB.out|apply aZ|apply nZ|apply dZ|refine sZ ?_ (IsS71.ge HI0.out)|refine sZ ?_ GE377.out|refine sZ ?_ GE390.out)|exact HB.out));rintro e w81 ⟨rfl,hi,hb,hk⟩;refine⟨_,rfl,?_⟩;replace HO_5:=mk0 (Kd.R_mono (Kd.R_keep (IsS71.apart (show IsS71 w0 _ g s0_0 t395 t396 from by repeat (first|(with_reducible first|exact HI0.out|apply IsS71.alloc|apply IsS71.drewN|apply IsS71.drew|apply IsS71.set_1|apply IsS71.set_2|refine IsS71.far ?_ NB0_377.out _|refine IsS71.far ?_ NB0_390.out _)|exact HI0.out)) (by (with_reducible repeat (first|apply aR|apply nR|apply dR));exact (Kd.R_mono (Kd.R_far (p:=⟨gb390,2,none⟩) (Kd.R_far (p:=⟨gb390,1,none⟩) (Kd.R_far (p:=⟨gb390,0,none⟩) (Kd.R_mono HO_5.out (fun k_ hk=>(⟨hk,hk.2⟩:_ ∧ k_ ≠ gb390))) (fun _ hk=>hk.2) (.int .i64 ((rd_T27 t378 t394).f0))) (fun _ hk=>hk.2) (.int .i64 ((rd_T27 t378 t394).f1))) (fun _ hk=>hk.2) (.int .i64 ((rd_T27 t378 t394).f2))) (fun _ h_=>h_.1))) (by decide)) hk (fun _ h=>h.2)) (fun _ h=>h.1));replace BK377:=mk0 (KeepBut.blk hk (g':=gb377) (o:=.cells #[.int .i64 0,.int .i64 0,.int .i64 0] 27 (0,0)) (by (with_reducible repeat (first|apply nB|apply dB|apply aB));refine blk_far ?_ NB377_390.out _;(with_reducible repeat (first|apply nB|apply dB|apply aB));refine blk_far ?_ NB377_390.out _;(with_reducible repeat (first|apply nB|apply dB|apply aB));refine blk_far ?_ NB377_390.out _;(with_reducible repeat (first|apply nB|apply dB|apply aB));exact BK377.out) NB377_0.out (by simp));replace BK390:=mk0 (KeepBut.blk hk (g':=gb390) (o:=.cells #[.int .i64 ((rd_T27 t378 t394).f0),.int .i64 ((rd_T27 t378 t394).f1),.int .i64 ((rd_T27 t378 t394).f2)] 27 (0,0)) (by (with_reducible repeat (first|apply nB|apply dB|apply aB));refine blk_put (cs:=#[.int .i64 ((rd_T27 t378 t394).f0),.int .i64 ((rd_T27 t378 t394).f1),.int .i64 t387]) ?_ 2 _ rfl;(with_reducible repeat (first|apply nB|apply dB|apply aB));refine blk_put (cs:=#[.int .i64 ((rd_T27 t378 t394).f0),.int .i64 t384,.int .i64 t387]) ?_ 1 _ rfl;(with_reducible repeat (first|apply nB|apply dB|apply aB));refine blk_put (cs:=#[.int .i64 t381,.int .i64 t384,.int .i64 t387]) ?_ 0 _ rfl;(with_reducible repeat (first|apply nB|apply dB|apply aB));exact BK390.out) NB390_0.out (by simp));replace HK:=mk0 (KeepBut.trans (by repeat (first|(with_reducible first|exact HK.out|apply KeepBut.set_|apply keep_drewN|apply keep_drew|apply keep_alloc|refine keep_far ?_ GW377.out _|refine keep_far ?_ GW390.out _)|exact HK.out)) hk (.inl rfl));replace HB:=mk0 (hb);replace HI0:=mk0 (hi);(try clear hb);(try clear hk);(try clear hi))|((with_reducible refine gate_callee (f:=78) rfl ?_);refine goesL_ (some 63) rfl rfl Try.func78 (by kernel_rfl) rfl #[.pointer (some ⟨g,0,none⟩)] rfl (by (try simp only [mA,mC,mN]);first|done|rfl|(simp only [lD,lT];done)|(simp only [lD,lT];rfl)) ?_;(with_reducible refine (spec_l01Cur_raw.calls g s0_0 t399 t400 t421 t422 t423 w0 _ ?side1 ?side2 A75.out).mono ?_);(case side1=>repeat (first|(with_reducible first|exact HI0.out|apply IsS71.alloc|apply IsS71.drewN|apply IsS71.drew|apply IsS71.set_1|apply IsS71.set_2|refine IsS71.far ?_ NB0_377.out _|refine IsS71.far ?_ NB0_390.out _)|exact HI0.out));(case side2=>repeat (first|(with_reducible first|exact HB.out|apply aZ|apply nZ|apply dZ|refine sZ ?_ (IsS71.ge HI0.out)|refine sZ ?_ GE377.out|refine sZ ?_ GE390.out)|exact HB.out));rintro e w82 ⟨rfl,hi,hb,hk⟩;refine⟨_,rfl,?_⟩;replace HO_5:=mk0 (Kd.R_mono (Kd.R_keep (IsS71.apart (show IsS71 w0 _ g s0_0 t399 t400 from by repeat (first|(with_reducible first|exact HI0.out|apply IsS71.alloc|apply IsS71.drewN|apply IsS71.drew|apply IsS71.set_1|apply IsS71.set_2|refine IsS71.far ?_ NB0_377.out _|refine IsS71.far ?_ NB0_390.out _)|exact HI0.out)) (rR HO_5.out) (by decide)) hk (fun _ h=>h.2)) (fun _ h=>h.1));replace BK377:=mk0 (KeepBut.blk hk (g':=gb377) (o:=.cells #[.int .i64 0,.int .i64 0,.int .i64 0] 27 (0,0)) (kN BK377.out) NB377_0.out (by simp));replace BK390:=mk0 (KeepBut.blk hk (g':=gb390) (o:=.cells #[.int .i64 ((rd_T27 t378 t394).f0),.int .i64 ((rd_T27 t378 t394).f1),.int .i64 ((rd_T27 t378 t394).f2)] 27 (0,0)) (kN BK390.out) NB390_0.out (by simp));replace HK:=mk0 (KeepBut.trans (by repeat (first|(with_reducible first|exact HK.out|apply KeepBut.set_|apply keep_drewN|apply keep_drew|apply keep_alloc|refine keep_far ?_ GW377.out _|refine keep_far ?_ GW390.out _)|exact HK.out)) hk (.inl rfl));replace HB:=mk0 (hb);replace HI0:=mk0 (hi);(try clear hb);(try clear hk);(try clear hi);obtain⟨hcz83_0,hcz83_1,hcz83_2,hfz83_0,hfz83_1,hfz83_2⟩:=cz3 BK390.out;have hnb84:=NB377_0.out;have hnc84:=NB0_377.out;obtain⟨hcz85_0,hcz85_1,hcz85_2,hfz85_0,hfz85_1,hfz85_2⟩:=cz3 BK377.out))
    refine bodyPost_ret (results_cell_row rfl _ _ gb377 27 #[.int .i64 t421,.int .i64 ((rd_T27 t378 t394).f1),.int .i64 ((rd_T27 t378 t394).f2)] (0,0) _ rfl (by (with_reducible repeat (first|apply nB|apply dB|apply aB));refine blk_put (cs:=#[.int .i64 t421,.int .i64 ((rd_T27 t378 t394).f1),.int .i64 0]) ?_ 2 _ rfl;(with_reducible repeat (first|apply nB|apply dB|apply aB));refine blk_put (cs:=#[.int .i64 t421,.int .i64 0,.int .i64 0]) ?_ 1 _ rfl;(with_reducible repeat (first|apply nB|apply dB|apply aB));refine blk_put (cs:=#[.int .i64 0,.int .i64 0,.int .i64 0]) ?_ 0 _ rfl;(with_reducible repeat (first|apply nB|apply dB|apply aB));refine blk_far ?_ NB377_390.out _;(with_reducible repeat (first|apply nB|apply dB|apply aB));exact BK377.out) Try.underlying27 rfl (by kernel_rfl)) rfl ?_
    exact⟨by first|rfl|(simp [errW_none,errW_some] <;> rfl)|(simp only [← hji23];first|rfl|(simp [errW_none,errW_some] <;> rfl))|(simp [*,errW_none,errW_some] <;> rfl),by repeat (first|(with_reducible first|exact HI0.out|apply IsS71.alloc|apply IsS71.drewN|apply IsS71.drew|apply IsS71.set_1|apply IsS71.set_2|refine IsS71.far ?_ NB0_377.out _|refine IsS71.far ?_ NB0_390.out _)|exact HI0.out),by repeat (first|(with_reducible first|exact HB.out|apply aZ|apply nZ|apply dZ|refine sZ ?_ (IsS71.ge HI0.out)|refine sZ ?_ GE377.out|refine sZ ?_ GE390.out)|exact HB.out),by repeat (first|(with_reducible first|exact HK.out|apply KeepBut.set_|apply keep_drewN|apply keep_drew|apply keep_alloc|refine keep_far ?_ GW377.out _|refine keep_far ?_ GW390.out _)|exact HK.out)⟩
   rw [if_pos c51] at H
   have c51b0:(t398 == 1) = true:=beq_iff_eq.mpr c51
   have c51b1:(t398 != 1) = false:=bne_eq_false_iff_eq.mpr c51
   clear c51
   replace H:=Option.bind_eq_some_iff.mp H
   obtain⟨⟨t411,t412,t413⟩,A520,H⟩:=H
   replace H:((some (([t411,wrap64 (((rd_T27 t378 t394).f1) - 1)]:List Int):List Int)).bind fun y414=>((spec_l01Cur_pick.f s0_0 t412 t413 2).bind fun bt417=>(if 0 ≤ bt417.1 then (if bt417.1 < (y414.length:Int) then (some ((rd_T27 t378 t394).f0,rd y414 bt417.1,(rd_T27 t378 t394).f2,bt417.2.1,bt417.2.2)) else (none)) else (none)))) = some (r1,r2,r3,r4,r5):=H
   have A52:=mk0 A520
   clear A520
   obtain⟨y414,hy414⟩:∃ y_:List Int,y_ = (([t411,wrap64 (((rd_T27 t378 t394).f1) - 1)]:List Int)):=⟨_,rfl⟩
   replace H:((spec_l01Cur_pick.f s0_0 t412 t413 2).bind fun bt417=>(if 0 ≤ bt417.1 then (if bt417.1 < (y414.length:Int) then (some ((rd_T27 t378 t394).f0,rd y414 bt417.1,(rd_T27 t378 t394).f2,bt417.2.1,bt417.2.2)) else (none)) else (none))) = some (r1,r2,r3,r4,r5):=by first|(rw [hy414];with_reducible exact H)|(have H2_:=(Option.bind_some _ _).symm.trans H;rw [hy414];with_reducible exact H2_)|(have H2_:=(Option.bind_some _ _).symm.trans H;with_reducible exact H2_)|with_reducible exact H|(rw [hy414];exact H)|exact H
   have Ny414:=mk0 hy414
   clear hy414
   replace H:=Option.bind_eq_some_iff.mp H
   obtain⟨⟨t417,t418,t419⟩,A530,H⟩:=H
   replace H:(if 0 ≤ t417 then (if t417 < (y414.length:Int) then (some ((rd_T27 t378 t394).f0,rd y414 t417,(rd_T27 t378 t394).f2,t418,t419)) else (none)) else (none)) = some (r1,r2,r3,r4,r5):=H
   have A53:=mk0 A530
   clear A530
   by_cases c54:0 ≤ t417
   rotate_left
   ·rw [if_neg c54] at H
    exact absurd H (by simp)
   rw [if_pos c54] at H
   have c54b0:decide (0 ≤ t417) = true:=decide_eq_true c54
   clear c54
   by_cases c55:t417 < (y414.length:Int)
   rotate_left
   ·rw [if_neg c55] at H
    exact absurd H (by simp)
   rw [if_pos c55] at H
   have c55b0:decide (t417 < (y414.length:Int)) = true:=decide_eq_true c55
   clear c55
   simp only [Option.some.injEq,Prod.mk.injEq] at H
   obtain⟨rfl,rfl,rfl,rfl,rfl⟩:=H
   obtain⟨Ao56,co56,eo56⟩:=Kd.R_slice HO_5.out
   subst eo56
   try go_wp2_with (first|((with_reducible refine gate_callee (f:=75) rfl ?_);refine goesL_ (some 29) rfl rfl Try.func75 (by kernel_rfl) rfl #[.pointer (some ⟨g,0,none⟩),.int .i64 ji23] rfl (by (try simp only [mA,mC,mN]);first|done|(simp only [hji23];rfl)|rfl|(simp only [lD,lT];done)|(simp only [lD,lT];rfl)) ?_;(with_reducible refine (spec_l01Cur_pick.calls g s0_0 x1001_6 x1002_6 ji23 t394 t395 t396 w0 _ ?side1 ?side2 A24.out).mono ?_);(case side1=>repeat (first|(with_reducible first|exact HI0.out|apply IsS71.alloc|apply IsS71.drewN|apply IsS71.drew|apply IsS71.set_1|apply IsS71.set_2|refine IsS71.far ?_ NB0_377.out _|refine IsS71.far ?_ NB0_390.out _)|exact HI0.out));(case side2=>repeat (first|(with_reducible first|exact HB.out|apply aZ|apply nZ|apply dZ|refine sZ ?_ (IsS71.ge HI0.out)|refine sZ ?_ GE377.out|refine sZ ?_ GE390.out)|exact HB.out));rintro e w57 ⟨rfl,hi,hb,hk⟩;refine⟨_,rfl,?_⟩;replace HO_5:=mk0 (Kd.R_mono (Kd.R_keep (IsS71.apart (show IsS71 w0 _ g s0_0 x1001_6 x1002_6 from by repeat (first|(with_reducible first|exact HI0.out|apply IsS71.alloc|apply IsS71.drewN|apply IsS71.drew|apply IsS71.set_1|apply IsS71.set_2|refine IsS71.far ?_ NB0_377.out _|refine IsS71.far ?_ NB0_390.out _)|exact HI0.out)) (rR HO_5.out) (by decide)) hk (fun _ h=>h.2)) (fun _ h=>h.1));replace BK377:=mk0 (KeepBut.blk hk (g':=gb377) (o:=.cells #[.int .i64 0,.int .i64 0,.int .i64 0] 27 (0,0)) (kN BK377.out) NB377_0.out (by simp));replace BK390:=mk0 (KeepBut.blk hk (g':=gb390) (o:=.cells #[.int .i64 t381,.int .i64 t384,.int .i64 t387] 27 (0,0)) (kN BK390.out) NB390_0.out (by simp));replace HK:=mk0 (KeepBut.trans (by repeat (first|(with_reducible first|exact HK.out|apply KeepBut.set_|apply keep_drewN|apply keep_drew|apply keep_alloc|refine keep_far ?_ GW377.out _|refine keep_far ?_ GW390.out _)|exact HK.out)) hk (.inl rfl));replace HB:=mk0 (hb);replace HI0:=mk0 (hi);(try clear hb);(try clear hk);(try clear hi);have p397:0 ≤ (t394:Int):=of_decide_eq_true (by first|(with_reducible assumption)|assumption);have q397:t394 < (t378.length:Int):=of_decide_eq_true (by first|(with_reducible assumption)|assumption);obtain⟨ad397,e397,hx397_0,hx397_1,hx397_2⟩:=at_T27 (Kd.R_reads' HO_5.out).2.2 t394 p397 q397;cases e397;replace p397:=eq_true p397;replace q397:=eq_true q397;have hnb58:=NB390_377.out;have hnc58:=NB377_390.out;have hnb59:=NB390_0.out;have hnc59:=NB0_390.out;obtain⟨hcz60_0,hcz60_1,hcz60_2,hfz60_0,hfz60_1,hfz60_2⟩:=cz3 BK390.out)|((with_reducible refine gate_callee (f:=75) rfl ?_);refine goesL_ (some 33) rfl rfl Try.func75 (by kernel_rfl) rfl #[.pointer (some ⟨g,0,none⟩),.int .i64 9] rfl (by (try simp only [mA,mC,mN]);first|done|rfl|(simp only [lD,lT];done)|(simp only [lD,lT];rfl)) ?_;(with_reducible refine (spec_l01Cur_pick.calls g s0_0 t395 t396 9 t398 t399 t400 w0 _ ?side1 ?side2 A27.out).mono ?_);(case side1=>repeat (first|(with_reducible first|exact HI0.out|apply IsS71.alloc|apply IsS71.drewN|apply IsS71.drew|apply IsS71.set_1|apply IsS71.set_2|refine IsS71.far ?_ NB0_377.out _|refine IsS71.far ?_ NB0_390.out _)|exact HI0.out));(case side2=>repeat (first|(with_reducible first|exact HB.out|apply aZ|apply nZ|apply dZ|refine sZ ?_ (IsS71.ge HI0.out)|refine sZ ?_ GE377.out|refine sZ ?_ GE390.out)|exact HB.out));rintro e w61 ⟨rfl,hi,hb,hk⟩;refine⟨_,rfl,?_⟩;replace HO_5:=mk0 (Kd.R_mono (Kd.R_keep (IsS71.apart (show IsS71 w0 _ g s0_0 t395 t396 from by repeat (first|(with_reducible first|exact HI0.out|apply IsS71.alloc|apply IsS71.drewN|apply IsS71.drew|apply IsS71.set_1|apply IsS71.set_2|refine IsS71.far ?_ NB0_377.out _|refine IsS71.far ?_ NB0_390.out _)|exact HI0.out)) (by (with_reducible repeat (first|apply aR|apply nR|apply dR));exact (Kd.R_mono (Kd.R_far (p:=⟨gb390,2,none⟩) (Kd.R_far (p:=⟨gb390,1,none⟩) (Kd.R_far (p:=⟨gb390,0,none⟩) (Kd.R_mono HO_5.out (fun k_ hk=>(⟨hk,hk.2⟩:_ ∧ k_ ≠ gb390))) (fun _ hk=>hk.2) (.int .i64 ((rd_T27 t378 t394).f0))) (fun _ hk=>hk.2) (.int .i64 ((rd_T27 t378 t394).f1))) (fun _ hk=>hk.2) (.int .i64 ((rd_T27 t378 t394).f2))) (fun _ h_=>h_.1))) (by decide)) hk (fun _ h=>h.2)) (fun _ h=>h.1));replace BK377:=mk0 (KeepBut.blk hk (g':=gb377) (o:=.cells #[.int .i64 0,.int .i64 0,.int .i64 0] 27 (0,0)) (by (with_reducible repeat (first|apply nB|apply dB|apply aB));refine blk_far ?_ NB377_390.out _;(with_reducible repeat (first|apply nB|apply dB|apply aB));refine blk_far ?_ NB377_390.out _;(with_reducible repeat (first|apply nB|apply dB|apply aB));refine blk_far ?_ NB377_390.out _;(with_reducible repeat (first|apply nB|apply dB|apply aB));exact BK377.out) NB377_0.out (by simp));replace BK390:=mk0 (KeepBut.blk hk (g':=gb390) (o:=.cells #[.int .i64 ((rd_T27 t378 t394).f0),.int .i64 ((rd_T27 t378 t394).f1),.int .i64 ((rd_T27 t378 t394).f2)] 27 (0,0)) (by (with_reducible repeat (first|apply nB|apply dB|apply aB));refine blk_put (cs:=#[.int .i64 ((rd_T27 t378 t394).f0),.int .i64 ((rd_T27 t378 t394).f1),.int .i64 t387]) ?_ 2 _ rfl;(with_reducible repeat (first|apply nB|apply dB|apply aB));refine blk_put (cs:=#[.int .i64 ((rd_T27 t378 t394).f0),.int .i64 t384,.int .i64 t387]) ?_ 1 _ rfl;(with_reducible repeat (first|apply nB|apply dB|apply aB));refine blk_put (cs:=#[.int .i64 t381,.int .i64 t384,.int .i64 t387]) ?_ 0 _ rfl;(with_reducible repeat (first|apply nB|apply dB|apply aB));exact BK390.out) NB390_0.out (by simp));replace HK:=mk0 (KeepBut.trans (by repeat (first|(with_reducible first|exact HK.out|apply KeepBut.set_|apply keep_drewN|apply keep_drew|apply keep_alloc|refine keep_far ?_ GW377.out _|refine keep_far ?_ GW390.out _)|exact HK.out)) hk (.inl rfl));replace HB:=mk0 (hb);replace HI0:=mk0 (hi);(try clear hb);(try clear hk);(try clear hi)))
   have pi420:(0 ≤ (t417:Int)) = True:=eq_true (of_decide_eq_true (by first|(with_reducible assumption)|assumption))
   have qi420:(t417 < (y414.length:Int)) = True:=eq_true (of_decide_eq_true (by first|(with_reducible assumption)|assumption))
   replace HO_5:=mk0 (dR HO_5.out)
   replace BK377:=mk0 (dB BK377.out)
   replace BK390:=mk0 (dB BK390.out)
   replace HI0:=mk0 (IsS71.drew HI0.out)
   replace HK:=mk0 (keep_drew HK.out)
   replace HB:=mk0 (dZ HB.out)
   refine start_ (n:=12) (S:=fun w'=>w'.cell? ⟨gb390,0,none⟩ = some (.int .i64 ((rd_T27 t378 t394).f0)) ∧ w'.cell? ⟨gb390,1,none⟩ = some (.int .i64 ((rd_T27 t378 t394).f1)) ∧ w'.cell? ⟨gb390,2,none⟩ = some (.int .i64 ((rd_T27 t378 t394).f2))) (ds:=[11]) spec_l01Cur_stretch.m0 (by kernel_rfl) rfl rfl (ck3 BK390.out) (fun hHeld=>?_);refine with_tabW spec_l01Cur_stretch.tab9 spec_l01Cur_stretch.bits9 (fun HT_ HW_=>?_)
   generalize w61.drew = w62 at HO_5 BK377 BK390 HI0 HK HB hHeld ⊢
   refine pure_ (i:=0) (N:=some 49) (v:=?_) (a':=?_) spec_l01Cur_stretch.m1 rfl rfl (any_of HT_.out (by kernel_rfl)) (fun _ _ _ h=>h) (Or.inl ⟨by rfl,?_⟩) ?_ ?_
   rotate_left
   ·intro w'
    go_simp
    with_reducible rfl
   rotate_left
   ·simp only [Act.put,sA,sO,sS,i64_w,i32_w]
    rfl
   refine pure_ (i:=2) (N:=some 51) (v:=?_) (a':=?_) spec_l01Cur_stretch.m2 rfl rfl (any_of HT_.out (by kernel_rfl)) (fun _ _ _ h=>h) (Or.inl ⟨by rfl,?_⟩) ?_ ?_
   rotate_left
   ·intro w'
    go_simp
    with_reducible rfl
   rotate_left
   ·simp only [Act.put,sA,sO,sS,i64_w,i32_w]
    rfl
   refine pure_ (i:=6) (N:=some 55) (v:=?_) (a':=?_) spec_l01Cur_stretch.m3 rfl rfl (any_of HT_.out (by kernel_rfl)) (fun _ _ _ h=>h) (Or.inl ⟨by rfl,?_⟩) ?_ ?_
   rotate_left
   ·intro w'
    go_simp
    with_reducible rfl
   rotate_left
   ·simp only [Act.put,sA,sO,sS,i64_w,i32_w]
    rfl
   refine take_ (i:=3) (N:=some 52) (v:=?_) (a':=?_) spec_l01Cur_stretch.m4 rfl rfl (take_ofW HT_.out HW_.out (by kernel_rfl)) (fun _ _ _ h=>h) (Or.inl ⟨by rfl,?_⟩) hHeld ?_ ?_
   rotate_left
   ·rintro w' ⟨s0,s1,s2⟩
    go_simp
    with_reducible rfl
   rotate_left
   ·simp only [Act.put,sA,sO,sS,i64_w,i32_w]
    rfl
   refine pure_ (i:=4) (N:=some 53) (v:=?_) (a':=?_) spec_l01Cur_stretch.m5 rfl rfl (any_of HT_.out (by kernel_rfl)) (fun _ _ _ h=>h) (Or.inl ⟨by rfl,?_⟩) ?_ ?_
   rotate_left
   ·intro w'
    go_simp
    with_reducible rfl
   rotate_left
   ·simp only [Act.put,sA,sO,sS,i64_w,i32_w]
    rfl
   refine one_ (i:=1) (N:=some 50) spec_l01Cur_stretch.m6 rfl rfl (one_of HT_.out (by kernel_rfl)) (by decide) (fun K hK=>?_)
   refine goes_ Try.func78 (by kernel_rfl) rfl #[.pointer (some ⟨g,0,none⟩)] (by rfl) rfl rfl (by (try simp only [mA,mC,mN]);first|done|rfl|(simp only [lD,lT];done)|(simp only [lD,lT];rfl)) ?_
   with_reducible refine (spec_l01Cur_raw.calls g s0_0 t399 t400 t411 t412 t413 w0 _ ?side1 ?side2 A52.out).mono ?_
   (case side1=>repeat (first|(with_reducible first|exact HI0.out|apply IsS71.alloc|apply IsS71.drewN|apply IsS71.drew|apply IsS71.set_1|apply IsS71.set_2|refine IsS71.far ?_ NB0_377.out _|refine IsS71.far ?_ NB0_390.out _)|exact HI0.out))
   (case side2=>repeat (first|(with_reducible first|exact HB.out|apply aZ|apply nZ|apply dZ|refine sZ ?_ (IsS71.ge HI0.out)|refine sZ ?_ GE377.out|refine sZ ?_ GE390.out)|exact HB.out))
   rintro e w63 ⟨rfl,hi,hb,hk⟩
   refine⟨_,rfl,?_⟩
   replace HO_5:=mk0 (Kd.R_mono (Kd.R_keep (IsS71.apart (show IsS71 w0 _ g s0_0 t399 t400 from by repeat (first|(with_reducible first|exact HI0.out|apply IsS71.alloc|apply IsS71.drewN|apply IsS71.drew|apply IsS71.set_1|apply IsS71.set_2|refine IsS71.far ?_ NB0_377.out _|refine IsS71.far ?_ NB0_390.out _)|exact HI0.out)) (rR HO_5.out) (by decide)) hk (fun _ h=>h.2)) (fun _ h=>h.1))
   replace BK377:=mk0 (KeepBut.blk hk (g':=gb377) (o:=.cells #[.int .i64 0,.int .i64 0,.int .i64 0] 27 (0,0)) (kN BK377.out) NB377_0.out (by simp))
   replace BK390:=mk0 (KeepBut.blk hk (g':=gb390) (o:=.cells #[.int .i64 ((rd_T27 t378 t394).f0),.int .i64 ((rd_T27 t378 t394).f1),.int .i64 ((rd_T27 t378 t394).f2)] 27 (0,0)) (kN BK390.out) NB390_0.out (by simp))
   replace HK:=mk0 (KeepBut.trans (by repeat (first|(with_reducible first|exact HK.out|apply KeepBut.set_|apply keep_drewN|apply keep_drew|apply keep_alloc|refine keep_far ?_ GW377.out _|refine keep_far ?_ GW390.out _)|exact HK.out)) hk (.inl rfl))
   replace HB:=mk0 (hb)
   replace HI0:=mk0 (hi)
   (try clear hb)
   (try clear hk)
   (try clear hi)
   refine hK.out _ _ (ck3 BK390.out) (fun hHeld=>?_)
   clear hK K
   refine norm_ (a':=?_) ?_ ?_
   rotate_left
   ·show Act.put _ (some 50) _ = _
    simp only [Act.put,sA,sO,sS,i64_w,i32_w]
    rfl
   refine join_ (σ:=Value × Addr) 4 spec_l01Cur_stretch.m7 (fun s_=>[(54,s_.1),(56,.int .i64 t417)]) (fun s_ w'=>(w'.cell? ⟨gb390,0,none⟩ = some (.int .i64 ((rd_T27 t378 t394).f0)) ∧ w'.cell? ⟨gb390,1,none⟩ = some (.int .i64 ((rd_T27 t378 t394).f1)) ∧ w'.cell? ⟨gb390,2,none⟩ = some (.int .i64 ((rd_T27 t378 t394).f2))) ∧ (Kd.R (Kd.int .i64) 3 w' w.heap.size (fun _=>True) s_.1 y414) ∧ (Kd.R k27 27 w' w.heap.size (fun k_=>k_ ≠ gb377 ∧ k_ ≠ gb390) (.slice (some ad397) t378.length co56) t378) ∧ (∃ c_,(s_.1:Value) = .slice (some s_.2) y414.length c_) ∧ (w'.heap[gb377]? = some (.cells #[.int .i64 0,.int .i64 0,.int .i64 0] 27 (0,0))) ∧ (w'.heap[gb390]? = some (.cells #[.int .i64 ((rd_T27 t378 t394).f0),.int .i64 ((rd_T27 t378 t394).f1),.int .i64 ((rd_T27 t378 t394).f2)] 27 (0,0))) ∧ (IsS71 w0 w' g s0_0 t418 t419) ∧ (KeepBut w w' g none) ∧ (Below w0.heap.size w0 w')) ?_ ?_
   rotate_left
   ·intro hCont
    refine two_ (i:=5) (j:=7) (Ni:=some 54) (Nj:=some 56) spec_l01Cur_stretch.m8 spec_l01Cur_stretch.m9 rfl rfl rfl rfl (two_of HT_.out (by kernel_rfl)) (by decide) (by decide) (fun K hK=>?_) (fun K hK=>?_)
    ·skip
     refine Kd.R_lit_step (Kd.int .i64) _ 3 ?hg (N:=54) ?hd (xs:=([t411,wrap64 (((rd_T27 t378 t394).f1) - 1)]:List Int)) (inner:=[.int .i64 t411,.int .i64 (wrap64 (((rd_T27 t378 t394).f1) - 1))]) (ok:=fun _=>True) (okp:=fun _=>True) ?hr ?hp (fun _ hk=>hk) trivial (Below.refl _ _) (Nat.le_refl _) (by simp) ?_;(case hd=>rfl);(case hg=>rfl);(case hr=>first|(go_simp;done)|(go_simp;rfl));(case hp=>exact (Reps.one (show Kd.M (Kd.int .i64) _ _ _ t411 [.int .i64 t411] from rfl) (Reps.one (show Kd.M (Kd.int .i64) _ _ _ (wrap64 (((rd_T27 t378 t394).f1) - 1)) [.int .i64 (wrap64 (((rd_T27 t378 t394).f1) - 1))] from rfl) (Reps.none _ _))))
     intro v415 w64 ho65 hb hg_ hnew_
     clear hg_ hnew_
     (first|rw [← Ny414.out] at ho65|(simp only [Int.reduceToNat] at ho65;rw [← Ny414.out] at ho65))
     replace HO_5:=mk0 (bR HO_5.out hb)
     have HO416:=mk0 (Kd.R_lower ho65 (keep_size (w:=w) (g:=g) (row:=none) (by repeat (first|(with_reducible first|exact HK.out|apply KeepBut.set_|apply keep_drewN|apply keep_drew|apply keep_alloc|refine keep_far ?_ GW377.out _|refine keep_far ?_ GW390.out _)|exact HK.out))))
     replace BK377:=mk0 (kK BK377.out hb)
     replace BK390:=mk0 (kK BK390.out hb)
     replace HK:=mk0 (KeepBut.trans (by repeat (first|(with_reducible first|exact HK.out|apply KeepBut.set_|apply keep_drewN|apply keep_drew|apply keep_alloc|refine keep_far ?_ GW377.out _|refine keep_far ?_ GW390.out _)|exact HK.out)) (KeepBut.of_below hb g none) (.inl rfl))
     replace HB:=mk0 (below_step (by repeat (first|(with_reducible first|exact HB.out|apply aZ|apply nZ|apply dZ|refine sZ ?_ (IsS71.ge HI0.out)|refine sZ ?_ GE377.out|refine sZ ?_ GE390.out)|exact HB.out)) hb)
     replace HI0:=mk0 (IsS71.below (by repeat (first|(with_reducible first|exact HI0.out|apply IsS71.alloc|apply IsS71.drewN|apply IsS71.drew|apply IsS71.set_1|apply IsS71.set_2|refine IsS71.far ?_ NB0_377.out _|refine IsS71.far ?_ NB0_390.out _)|exact HI0.out)) hb)
     clear hb ho65
     obtain⟨Ao66,co66,eo66⟩:=Kd.R_slice HO416.out
     subst eo66
     obtain⟨ado66,fo66,_⟩:=Kd.at_int (Kd.R_reads' HO416.out).2.2 0 (by decide) (by rw [Ny414.out];simp)
     cases fo66
     refine hK.out _ _ (ck3 BK390.out) (fun hHeld=>?_)
     clear hK K
     refine norm_ (a':=?_) ?_ ?_
     rotate_left
     ·show Act.put _ (some 54) _ = _
      simp only [Act.put,sA,sO,sS,i64_w,i32_w]
      rfl
     refine one_ (i:=7) (N:=some 56) spec_l01Cur_stretch.m7 rfl rfl (one_of HT_.out (by kernel_rfl)) (by decide) (fun K hK=>?_)
     refine goes_ Try.func75 (by kernel_rfl) rfl #[.pointer (some ⟨g,0,none⟩),.int .i64 2] (by rfl) rfl rfl (by (try simp only [mA,mC,mN]);first|done|rfl|(simp only [lD,lT];done)|(simp only [lD,lT];rfl)) ?_
     with_reducible refine (spec_l01Cur_pick.calls g s0_0 t412 t413 2 t417 t418 t419 w0 _ ?side1 ?side2 A53.out).mono ?_
     (case side1=>repeat (first|(with_reducible first|exact HI0.out|apply IsS71.alloc|apply IsS71.drewN|apply IsS71.drew|apply IsS71.set_1|apply IsS71.set_2|refine IsS71.far ?_ NB0_377.out _|refine IsS71.far ?_ NB0_390.out _)|exact HI0.out))
     (case side2=>repeat (first|(with_reducible first|exact HB.out|apply aZ|apply nZ|apply dZ|refine sZ ?_ (IsS71.ge HI0.out)|refine sZ ?_ GE377.out|refine sZ ?_ GE390.out)|exact HB.out))
     rintro e w67 ⟨rfl,hi,hb,hk⟩
     refine⟨_,rfl,?_⟩
     replace HO_5:=mk0 (Kd.R_mono (Kd.R_keep (IsS71.apart (show IsS71 w0 _ g s0_0 t412 t413 from by repeat (first|(with_reducible first|exact HI0.out|apply IsS71.alloc|apply IsS71.drewN|apply IsS71.drew|apply IsS71.set_1|apply IsS71.set_2|refine IsS71.far ?_ NB0_377.out _|refine IsS71.far ?_ NB0_390.out _)|exact HI0.out)) (rR HO_5.out) (by decide)) hk (fun _ h=>h.2)) (fun _ h=>h.1))
     replace BK377:=mk0 (KeepBut.blk hk (g':=gb377) (o:=.cells #[.int .i64 0,.int .i64 0,.int .i64 0] 27 (0,0)) (kN BK377.out) NB377_0.out (by simp))
     replace BK390:=mk0 (KeepBut.blk hk (g':=gb390) (o:=.cells #[.int .i64 ((rd_T27 t378 t394).f0),.int .i64 ((rd_T27 t378 t394).f1),.int .i64 ((rd_T27 t378 t394).f2)] 27 (0,0)) (kN BK390.out) NB390_0.out (by simp))
     replace HO416:=mk0 (Kd.R_mono (Kd.R_keep (IsS71.apart (show IsS71 w0 _ g s0_0 t412 t413 from by repeat (first|(with_reducible first|exact HI0.out|apply IsS71.alloc|apply IsS71.drewN|apply IsS71.drew|apply IsS71.set_1|apply IsS71.set_2|refine IsS71.far ?_ NB0_377.out _|refine IsS71.far ?_ NB0_390.out _)|exact HI0.out)) (rR HO416.out) (by decide)) hk (fun _ h=>h.2)) (fun _ h=>h.1))
     replace HK:=mk0 (KeepBut.trans (by repeat (first|(with_reducible first|exact HK.out|apply KeepBut.set_|apply keep_drewN|apply keep_drew|apply keep_alloc|refine keep_far ?_ GW377.out _|refine keep_far ?_ GW390.out _)|exact HK.out)) hk (.inl rfl))
     replace HB:=mk0 (hb)
     replace HI0:=mk0 (hi)
     (try clear hb)
     (try clear hk)
     (try clear hi)
     refine hK.out _ _ (ck3 BK390.out) (fun hHeld=>?_)
     clear hK K
     refine norm_ (a':=?_) ?_ ?_
     rotate_left
     ·show Act.put _ (some 56) _ = _
      simp only [Act.put,sA,sO,sS,i64_w,i32_w]
      rfl
     exact norm_ (by simp only [putAll,Act.put,sA,sO,sS]) (hCont (.slice (some ado66) y414.length co66,ado66) _ ⟨hHeld,(rR HO416.out),(rR HO_5.out),⟨_,rfl⟩,(kN BK377.out),(kN BK390.out),(by repeat (first|(with_reducible first|exact HI0.out|apply IsS71.alloc|apply IsS71.drewN|apply IsS71.drew|apply IsS71.set_1|apply IsS71.set_2|refine IsS71.far ?_ NB0_377.out _|refine IsS71.far ?_ NB0_390.out _)|exact HI0.out)),(by repeat (first|(with_reducible first|exact HK.out|apply KeepBut.set_|apply keep_drewN|apply keep_drew|apply keep_alloc|refine keep_far ?_ GW377.out _|refine keep_far ?_ GW390.out _)|exact HK.out)),(by repeat (first|(with_reducible first|exact HB.out|apply aZ|apply nZ|apply dZ|refine sZ ?_ (IsS71.ge HI0.out)|refine sZ ?_ GE377.out|refine sZ ?_ GE390.out)|exact HB.out))⟩)
    ·skip
     refine goes_ Try.func75 (by kernel_rfl) rfl #[.pointer (some ⟨g,0,none⟩),.int .i64 2] (by rfl) rfl rfl (by (try simp only [mA,mC,mN]);first|done|rfl|(simp only [lD,lT];done)|(simp only [lD,lT];rfl)) ?_
     with_reducible refine (spec_l01Cur_pick.calls g s0_0 t412 t413 2 t417 t418 t419 w0 _ ?side1 ?side2 A53.out).mono ?_
     (case side1=>repeat (first|(with_reducible first|exact HI0.out|apply IsS71.alloc|apply IsS71.drewN|apply IsS71.drew|apply IsS71.set_1|apply IsS71.set_2|refine IsS71.far ?_ NB0_377.out _|refine IsS71.far ?_ NB0_390.out _)|exact HI0.out))
     (case side2=>repeat (first|(with_reducible first|exact HB.out|apply aZ|apply nZ|apply dZ|refine sZ ?_ (IsS71.ge HI0.out)|refine sZ ?_ GE377.out|refine sZ ?_ GE390.out)|exact HB.out))
     rintro e w64 ⟨rfl,hi,hb,hk⟩
     refine⟨_,rfl,?_⟩
     replace HO_5:=mk0 (Kd.R_mono (Kd.R_keep (IsS71.apart (show IsS71 w0 _ g s0_0 t412 t413 from by repeat (first|(with_reducible first|exact HI0.out|apply IsS71.alloc|apply IsS71.drewN|apply IsS71.drew|apply IsS71.set_1|apply IsS71.set_2|refine IsS71.far ?_ NB0_377.out _|refine IsS71.far ?_ NB0_390.out _)|exact HI0.out)) (rR HO_5.out) (by decide)) hk (fun _ h=>h.2)) (fun _ h=>h.1))
     replace BK377:=mk0 (KeepBut.blk hk (g':=gb377) (o:=.cells #[.int .i64 0,.int .i64 0,.int .i64 0] 27 (0,0)) (kN BK377.out) NB377_0.out (by simp))
     replace BK390:=mk0 (KeepBut.blk hk (g':=gb390) (o:=.cells #[.int .i64 ((rd_T27 t378 t394).f0),.int .i64 ((rd_T27 t378 t394).f1),.int .i64 ((rd_T27 t378 t394).f2)] 27 (0,0)) (kN BK390.out) NB390_0.out (by simp))
     replace HK:=mk0 (KeepBut.trans (by repeat (first|(with_reducible first|exact HK.out|apply KeepBut.set_|apply keep_drewN|apply keep_drew|apply keep_alloc|refine keep_far ?_ GW377.out _|refine keep_far ?_ GW390.out _)|exact HK.out)) hk (.inl rfl))
     replace HB:=mk0 (hb)
     replace HI0:=mk0 (hi)
     (try clear hb)
     (try clear hk)
     (try clear hi)
     refine hK.out _ _ (ck3 BK390.out) (fun hHeld=>?_)
     clear hK K
     refine norm_ (a':=?_) ?_ ?_
     rotate_left
     ·show Act.put _ (some 56) _ = _
      simp only [Act.put,sA,sO,sS,i64_w,i32_w]
      rfl
     refine one_ (i:=5) (N:=some 54) spec_l01Cur_stretch.m7 rfl rfl (one_of HT_.out (by kernel_rfl)) (by decide) (fun K hK=>?_)
     refine Kd.R_lit_step (Kd.int .i64) _ 3 ?hg (N:=54) ?hd (xs:=([t411,wrap64 (((rd_T27 t378 t394).f1) - 1)]:List Int)) (inner:=[.int .i64 t411,.int .i64 (wrap64 (((rd_T27 t378 t394).f1) - 1))]) (ok:=fun _=>True) (okp:=fun _=>True) ?hr ?hp (fun _ hk=>hk) trivial (Below.refl _ _) (Nat.le_refl _) (by simp) ?_;(case hd=>rfl);(case hg=>rfl);(case hr=>first|(go_simp;done)|(go_simp;rfl));(case hp=>exact (Reps.one (show Kd.M (Kd.int .i64) _ _ _ t411 [.int .i64 t411] from rfl) (Reps.one (show Kd.M (Kd.int .i64) _ _ _ (wrap64 (((rd_T27 t378 t394).f1) - 1)) [.int .i64 (wrap64 (((rd_T27 t378 t394).f1) - 1))] from rfl) (Reps.none _ _))))
     intro v415 w65 ho66 hb hg_ hnew_
     clear hg_ hnew_
     (first|rw [← Ny414.out] at ho66|(simp only [Int.reduceToNat] at ho66;rw [← Ny414.out] at ho66))
     replace HO_5:=mk0 (bR HO_5.out hb)
     have HO416:=mk0 (Kd.R_lower ho66 (keep_size (w:=w) (g:=g) (row:=none) (by repeat (first|(with_reducible first|exact HK.out|apply KeepBut.set_|apply keep_drewN|apply keep_drew|apply keep_alloc|refine keep_far ?_ GW377.out _|refine keep_far ?_ GW390.out _)|exact HK.out))))
     replace BK377:=mk0 (kK BK377.out hb)
     replace BK390:=mk0 (kK BK390.out hb)
     replace HK:=mk0 (KeepBut.trans (by repeat (first|(with_reducible first|exact HK.out|apply KeepBut.set_|apply keep_drewN|apply keep_drew|apply keep_alloc|refine keep_far ?_ GW377.out _|refine keep_far ?_ GW390.out _)|exact HK.out)) (KeepBut.of_below hb g none) (.inl rfl))
     replace HB:=mk0 (below_step (by repeat (first|(with_reducible first|exact HB.out|apply aZ|apply nZ|apply dZ|refine sZ ?_ (IsS71.ge HI0.out)|refine sZ ?_ GE377.out|refine sZ ?_ GE390.out)|exact HB.out)) hb)
     replace HI0:=mk0 (IsS71.below (by repeat (first|(with_reducible first|exact HI0.out|apply IsS71.alloc|apply IsS71.drewN|apply IsS71.drew|apply IsS71.set_1|apply IsS71.set_2|refine IsS71.far ?_ NB0_377.out _|refine IsS71.far ?_ NB0_390.out _)|exact HI0.out)) hb)
     clear hb ho66
     obtain⟨Ao67,co67,eo67⟩:=Kd.R_slice HO416.out
     subst eo67
     obtain⟨ado67,fo67,_⟩:=Kd.at_int (Kd.R_reads' HO416.out).2.2 0 (by decide) (by rw [Ny414.out];simp)
     cases fo67
     refine hK.out _ _ (ck3 BK390.out) (fun hHeld=>?_)
     clear hK K
     refine norm_ (a':=?_) ?_ ?_
     rotate_left
     ·show Act.put _ (some 54) _ = _
      simp only [Act.put,sA,sO,sS,i64_w,i32_w]
      rfl
     exact norm_ (by simp only [putAll,Act.put,sA,sO,sS]) (hCont (.slice (some ado67) y414.length co67,ado67) _ ⟨hHeld,(rR HO416.out),(rR HO_5.out),⟨_,rfl⟩,(kN BK377.out),(kN BK390.out),(by repeat (first|(with_reducible first|exact HI0.out|apply IsS71.alloc|apply IsS71.drewN|apply IsS71.drew|apply IsS71.set_1|apply IsS71.set_2|refine IsS71.far ?_ NB0_377.out _|refine IsS71.far ?_ NB0_390.out _)|exact HI0.out)),(by repeat (first|(with_reducible first|exact HK.out|apply KeepBut.set_|apply keep_drewN|apply keep_drew|apply keep_alloc|refine keep_far ?_ GW377.out _|refine keep_far ?_ GW390.out _)|exact HK.out)),(by repeat (first|(with_reducible first|exact HB.out|apply aZ|apply nZ|apply dZ|refine sZ ?_ (IsS71.ge HI0.out)|refine sZ ?_ GE377.out|refine sZ ?_ GE390.out)|exact HB.out))⟩)
   rintro⟨v415,adz_v415⟩ w68 ⟨hS_,h0_,h1_,h2_,h3_,h4_,h5_,h6_,h7_⟩
   have n0_:Aside0 (Kd.R (Kd.int .i64) 3 w68 w.heap.size (fun _=>True) v415 y414):=⟨h0_⟩
   have n1_:Aside0 (Kd.R k27 27 w68 w.heap.size (fun k_=>k_ ≠ gb377 ∧ k_ ≠ gb390) (.slice (some ad397) t378.length co56) t378):=⟨h1_⟩
   have n2_:Aside0 (∃ c_,(v415:Value) = .slice (some adz_v415) y414.length c_):=⟨h2_⟩
   have n3_:Aside0 (w68.heap[gb377]? = some (.cells #[.int .i64 0,.int .i64 0,.int .i64 0] 27 (0,0))):=⟨h3_⟩
   have n4_:Aside0 (w68.heap[gb390]? = some (.cells #[.int .i64 ((rd_T27 t378 t394).f0),.int .i64 ((rd_T27 t378 t394).f1),.int .i64 ((rd_T27 t378 t394).f2)] 27 (0,0))):=⟨h4_⟩
   have n5_:Aside0 (IsS71 w0 w68 g s0_0 t418 t419):=⟨h5_⟩
   have n6_:Aside0 (KeepBut w w68 g none):=⟨h6_⟩
   have n7_:Aside0 (Below w0.heap.size w0 w68):=⟨h7_⟩
   clear HO_5
   clear BK377
   clear BK390
   clear HI0
   clear HK
   clear HB
   clear h0_ h1_ h2_ h3_ h4_ h5_ h6_ h7_
   have HO416:=n0_
   have HO_5:=n1_
   have HA_HO416:=n2_
   have BK377:=n3_
   have BK390:=n4_
   have HI0:=n5_
   have HK:=n6_
   have HB:=n7_
   clear n0_ n1_ n2_ n3_ n4_ n5_ n6_ n7_
   have hHeld:w68.cell? ⟨gb390,0,none⟩ = some (.int .i64 ((rd_T27 t378 t394).f0)) ∧ w68.cell? ⟨gb390,1,none⟩ = some (.int .i64 ((rd_T27 t378 t394).f1)) ∧ w68.cell? ⟨gb390,2,none⟩ = some (.int .i64 ((rd_T27 t378 t394).f2)):=hS_
   obtain⟨co69,eo69⟩:=HA_HO416.out
   clear HA_HO416
   subst eo69
   refine norm_ (a':=?_) ?_ ?_
   rotate_left
   ·simp only [putAll,Act.put,sA,sO,sS]
    rfl
   refine pure_ (i:=8) (N:=some 57) (v:=?_) (a':=?_) spec_l01Cur_stretch.m10 rfl rfl (any_of HT_.out (by kernel_rfl)) (fun _ _ _ h=>h) (Or.inl ⟨by rfl,?_⟩) ?_ ?_
   rotate_left
   ·intro w'
    go_simp
    with_reducible rfl
   rotate_left
   ·simp only [Act.put,sA,sO,sS,i64_w,i32_w]
    rfl
   refine one_ (i:=9) (N:=some 58) spec_l01Cur_stretch.m11 rfl rfl (one_of HT_.out (by kernel_rfl)) (by decide) (fun K hK=>?_)
   (have p420:0 ≤ (t417:Int):=of_decide_eq_true (by first|(with_reducible assumption)|assumption);have q420:t417 < (y414.length:Int):=of_decide_eq_true (by first|(with_reducible assumption)|assumption);obtain⟨ad420,e420,hx420_0⟩:=Kd.at_int (Kd.R_reads' HO416.out).2.2 t417 p420 q420;obtain rfl:adz_v415 = ad420:=(by injection e420))
   refine value_ (w1:=?_) (v:=?_) (by rfl) rfl ?_ ?_
   rotate_left 2
   ·go_simp
    constructor
    ·rfl
    ·rfl
   clear hx420_0
   refine hK.out _ _ (ck3 BK390.out) (fun hHeld=>?_)
   clear hK K
   refine norm_ (a':=?_) ?_ ?_
   rotate_left
   ·show Act.put _ (some 58) _ = _
    simp only [Act.put,sA,sO,sS,i64_w,i32_w]
    rfl
   refine pure_ (i:=10) (N:=some 59) (v:=?_) (a':=?_) spec_l01Cur_stretch.m12 rfl rfl (any_of HT_.out (by kernel_rfl)) (fun _ _ _ h=>h) (Or.inl ⟨by rfl,?_⟩) ?_ ?_
   rotate_left
   ·intro w'
    go_simp
    with_reducible rfl
   rotate_left
   ·simp only [Act.put,sA,sO,sS,i64_w,i32_w]
    rfl
   refine last_ (i:=11) (N:=none) spec_l01Cur_stretch.m13 rfl rfl (one_of HT_.out (by kernel_rfl)) (by decide) (fun K hK=>?_)
   have hs70:w68.cell? ⟨gb390,1,none⟩ = some (.int .i64 ((rd_T27 t378 t394).f1)):=(blk_cell BK390.out 1).trans rfl
   have hfs70:=blk_frozen BK390.out 1
   have hns70_0:=NB377_390.out
   have hms70_0:=NB390_377.out
   refine skip_ (w1:=?_) (by rfl) rfl ?_ ?_
   rotate_left
   ·go_simp
    rfl
   refine hK.out _ _ ?_
   clear hK K
   refine done_ (done_of HT_.out (by kernel_rfl)) ?_
   obtain⟨hcz71_0,hcz71_1,hcz71_2,hfz71_0,hfz71_1,hfz71_2⟩:=cz3 BK390.out
   have hnb72:=NB377_0.out
   have hnc72:=NB0_377.out
   obtain⟨hcz73_0,hcz73_1,hcz73_2,hfz73_0,hfz73_1,hfz73_2⟩:=cz3 BK377.out
   try go_wp2
   refine bodyPost_ret (results_cell_row rfl _ _ gb377 27 #[.int .i64 ((rd_T27 t378 t394).f0),.int .i64 (rd y414 t417),.int .i64 ((rd_T27 t378 t394).f2)] (0,0) _ rfl (by (with_reducible repeat (first|apply nB|apply dB|apply aB));refine blk_put (cs:=#[.int .i64 ((rd_T27 t378 t394).f0),.int .i64 (rd y414 t417),.int .i64 0]) ?_ 2 _ rfl;(with_reducible repeat (first|apply nB|apply dB|apply aB));refine blk_put (cs:=#[.int .i64 ((rd_T27 t378 t394).f0),.int .i64 0,.int .i64 0]) ?_ 1 _ rfl;(with_reducible repeat (first|apply nB|apply dB|apply aB));refine blk_put (cs:=#[.int .i64 0,.int .i64 0,.int .i64 0]) ?_ 0 _ rfl;(with_reducible repeat (first|apply nB|apply dB|apply aB));refine blk_far ?_ NB377_390.out _;(with_reducible repeat (first|apply nB|apply dB|apply aB));exact BK377.out) Try.underlying27 rfl (by kernel_rfl)) rfl ?_
   exact⟨by first|rfl|(simp [errW_none,errW_some] <;> rfl)|(simp only [← hji23];first|rfl|(simp [errW_none,errW_some] <;> rfl))|(simp [*,errW_none,errW_some] <;> rfl),by repeat (first|(with_reducible first|exact HI0.out|apply IsS71.alloc|apply IsS71.drewN|apply IsS71.drew|apply IsS71.set_1|apply IsS71.set_2|refine IsS71.far ?_ NB0_377.out _|refine IsS71.far ?_ NB0_390.out _)|exact HI0.out),by repeat (first|(with_reducible first|exact HB.out|apply aZ|apply nZ|apply dZ|refine sZ ?_ (IsS71.ge HI0.out)|refine sZ ?_ GE377.out|refine sZ ?_ GE390.out)|exact HB.out),by repeat (first|(with_reducible first|exact HK.out|apply KeepBut.set_|apply keep_drewN|apply keep_drew|apply keep_alloc|refine keep_far ?_ GW377.out _|refine keep_far ?_ GW390.out _)|exact HK.out)⟩
/-! ### spec_DrawStretchKids: function 35 -/
def spec_DrawStretchKids.f (k : Nat) (l0 : List Int) : Option (List Int × Int × Int × Int) := (spec_l01Open.f l0).bind fun bt425 => ((spec_l01Cur_textOf.f k bt425.1 bt425.2.1 bt425.2.2 30).bind fun bt429 => ((spec_l01Cur_stretch.f k bt425.1 bt429.2.1 bt429.2.2 bt429.1).bind fun bt434 => (some (bt429.1, bt434.1, bt434.2.1, bt434.2.2.1))))
theorem spec_DrawStretchKids.mono : ∀ a0 k, LeO (spec_DrawStretchKids.f k a0) (spec_DrawStretchKids.f (k + 1) a0) := by
 intro a0 k
 unfold spec_DrawStretchKids.f
 repeat' first|(with_reducible first|exact spec_l01Cur_stretch.mono _ _ _ _ _|exact spec_l01Cur_textOf.mono _ _ _ _ _|exact LeO.refl _|exact LeO.none _|refine LeO.ite ?_ ?_|refine LeO.bind ?_ (fun _ => ?_))|exact LeO.none _|refine LeO.ite ?_ ?_|refine LeO.bind ?_ (fun _ => ?_)
set_option maxHeartbeats 8000000 in
set_option maxRecDepth 100000 in
theorem spec_DrawStretchKids.calls (k : Nat) (A0 : Option Addr) (c0 : Nat) (l0 : List Int) (r1 : List Int) (r2 : Int) (r3 : Int) (r4 : Int) (w : World) (hr0 : Kd.C (Kd.int .u8) w A0 l0.length l0) (hc0 : l0.length ≤ c0) (h : spec_DrawStretchKids.f k l0 = some (r1, r2, r3, r4)) :
  Calls Try.prog 35 #[.slice A0 l0.length c0] w fun e w' => ∃ v0_ : Value, e = .returned (.tuple #[v0_, .agg #[.int .i64 r2, .int .i64 r3, .int .i64 r4]]) ∧ Kd.R (Kd.int .u8) 5 w' w.heap.size (fun _ => True) v0_ r1 ∧ Below w.heap.size w w' := by
 have hu27:=Try.underlying27
 have HR0:=mk0 hr0
 have HC0:=mk0 hc0
 clear hr0 hc0
 have HB:=mk0 (Below.refl w.heap.size w)
 have H:((spec_l01Open.f l0).bind fun bt425=>((spec_l01Cur_textOf.f k bt425.1 bt425.2.1 bt425.2.2 30).bind fun bt429=>((spec_l01Cur_stretch.f k bt425.1 bt429.2.1 bt429.2.2 bt429.1).bind fun bt434=>(some (bt429.1,bt434.1,bt434.2.1,bt434.2.2.1))))) = some (r1,r2,r3,r4):=h
 clear h
 replace H:=Option.bind_eq_some_iff.mp H
 obtain⟨⟨t425,t426,t427⟩,A20,H⟩:=H
 replace H:((spec_l01Cur_textOf.f k t425 t426 t427 30).bind fun bt429=>((spec_l01Cur_stretch.f k t425 bt429.2.1 bt429.2.2 bt429.1).bind fun bt434=>(some (bt429.1,bt434.1,bt434.2.1,bt434.2.2.1)))) = some (r1,r2,r3,r4):=H
 have A2:=mk0 A20
 clear A20
 replace H:=Option.bind_eq_some_iff.mp H
 obtain⟨⟨t429,t432,t433⟩,A30,H⟩:=H
 replace H:((spec_l01Cur_stretch.f k t425 t432 t433 t429).bind fun bt434=>(some (t429,bt434.1,bt434.2.1,bt434.2.2.1))) = some (r1,r2,r3,r4):=H
 have A3:=mk0 A30
 clear A30
 replace H:=Option.bind_eq_some_iff.mp H
 obtain⟨⟨t434,t435,t436,t437,t438⟩,A40,H⟩:=H
 replace H:(some (t429,t434,t435,t436)) = some (r1,r2,r3,r4):=H
 have A4:=mk0 A40
 clear A40
 simp only [Option.some.injEq,Prod.mk.injEq] at H
 obtain⟨rfl,rfl,rfl,rfl⟩:=H
 go_enter Try.func35,Try.ntmps35
 go_wp2_with (first|((with_reducible refine gate_dst (N:=3) rfl ?_);refine box_event ?hg (N:=3) ?hd (cs:=#[.int .i64 0,.int .i64 0,.int .i64 0]) (t:=27) ?hr ?_;(case hd=>rfl);(case hg=>rfl);(case hr=>first|(go_simp;done)|(go_simp;rfl));intro gb424 hg w5 hbox hb;have BK424:=mk0 (hbox);have GW424:=mk0 ((by rw [hg];exact (kZ HB.out):w.heap.size ≤ gb424));have GE424:=mk0 ((by rw [hg];exact (kZ HB.out):w.heap.size ≤ gb424));replace HB:=mk0 (kS HB.out hb);clear hb hbox hg)|((with_reducible refine gate_callee (f:=59) rfl ?_);refine goesL_ (some 7) rfl rfl Try.func59 (by kernel_rfl) rfl #[.slice A0 l0.length c0] rfl (by (try simp only [mA,mC,mN]);first|done|rfl|(simp only [lD,lT];done)|(simp only [lD,lT];rfl)) ?_;(with_reducible refine (spec_l01Open.calls _ _ l0 t425 t426 t427 w _ ?side1 ?side2 ?side3 A2.out).mono ?_);(case side1=>repeat (first|(with_reducible first|exact HB.out|apply aZ|apply nZ|apply dZ|refine sZ ?_ GE424.out)|exact HB.out));(case side2=>exact HR0.out);(case side3=>exact HC0.out);rintro e w6 ⟨g428,rfl,hi,hb,hb2⟩;refine⟨_,rfl,?_⟩;replace HB:=mk0 (hb);have HI428:=mk0 (hi);have NB428_424:=mk0 (IsS71.ne_blk hi (blk_below (g:=gb424) (o:=.cells #[.int .i64 0,.int .i64 0,.int .i64 0] 27 (0,0)) (kN BK424.out) hb2) (by decide));have NB424_428:=mk0 (Ne.symm (IsS71.ne_blk hi (blk_below (g:=gb424) (o:=.cells #[.int .i64 0,.int .i64 0,.int .i64 0] 27 (0,0)) (kN BK424.out) hb2) (by decide)));replace BK424:=mk0 (blk_below (g:=gb424) (o:=.cells #[.int .i64 0,.int .i64 0,.int .i64 0] 27 (0,0)) (kN BK424.out) hb2);(try clear hb);(try clear hb2);(try clear hi))|((with_reducible refine gate_callee (f:=60) rfl ?_);refine goesL_ (some 9) rfl rfl Try.func60 (by kernel_rfl) rfl #[.pointer (some ⟨g428,0,none⟩),.int .i64 30] rfl (by (try simp only [mA,mC,mN]);first|done|rfl|(simp only [lD,lT];done)|(simp only [lD,lT];rfl)) ?_;(with_reducible refine (spec_l01Cur_textOf.calls k g428 t425 t426 t427 30 t429 t432 t433 w _ ?side1 ?side2 A3.out).mono ?_);(case side1=>repeat (first|(with_reducible first|exact HI428.out|apply IsS71.alloc|apply IsS71.drewN|apply IsS71.drew|apply IsS71.set_1|apply IsS71.set_2|refine IsS71.far ?_ NB428_424.out _)|exact HI428.out));(case side2=>repeat (first|(with_reducible first|exact HB.out|apply aZ|apply nZ|apply dZ|refine sZ ?_ (IsS71.ge HI428.out)|refine sZ ?_ GE424.out)|exact HB.out));rintro e w7 ⟨v430,rfl,ho0,hi,hb,hk⟩;refine⟨_,rfl,?_⟩;replace BK424:=mk0 (KeepBut.blk hk (g':=gb424) (o:=.cells #[.int .i64 0,.int .i64 0,.int .i64 0] 27 (0,0)) (kN BK424.out) NB424_428.out (by simp));have HO431:=mk0 (Kd.R_lower ho0 (below_size (by repeat (first|(with_reducible first|exact HB.out|apply aZ|apply nZ|apply dZ|refine sZ ?_ (IsS71.ge HI428.out)|refine sZ ?_ GE424.out)|exact HB.out))));replace HB:=mk0 (hb);replace HI428:=mk0 (hi);(try clear hb);(try clear hk);(try clear hi);(try clear ho0);obtain⟨Ao8,co8,eo8⟩:=Kd.R_slice HO431.out;subst eo8)|((with_reducible refine gate_callee (f:=61) rfl ?_);refine goesL_ (some 13) rfl rfl Try.func61 (by kernel_rfl) rfl #[.pointer (some ⟨g428,0,none⟩),.slice Ao8 t429.length co8] rfl (by (try simp only [mA,mC,mN]);first|done|rfl|(simp only [lD,lT];done)|(simp only [lD,lT];rfl)) ?_;(with_reducible refine (spec_l01Cur_stretch.calls k g428 t425 t432 t433 _ _ t429 t434 t435 t436 t437 t438 w _ ?side1 ?side2 ?side3 ?side4 ?side5 A4.out).mono ?_);(case side1=>repeat (first|(with_reducible first|exact HI428.out|apply IsS71.alloc|apply IsS71.drewN|apply IsS71.drew|apply IsS71.set_1|apply IsS71.set_2|refine IsS71.far ?_ NB428_424.out _)|exact HI428.out));(case side2=>repeat (first|(with_reducible first|exact HB.out|apply aZ|apply nZ|apply dZ|refine sZ ?_ (IsS71.ge HI428.out)|refine sZ ?_ GE424.out)|exact HB.out));(case side3=>exact kC (Kd.R_reads' HO431.out).2.2);(case side4=>exact (Kd.R_reads' HO431.out).2.1);(case side5=>exact far_slice (IsS71.own_ne HI428.out HO431.out (by decide)));rintro e w9 ⟨rfl,hi,hb,hk⟩;refine⟨_,rfl,?_⟩;replace BK424:=mk0 (KeepBut.blk hk (g':=gb424) (o:=.cells #[.int .i64 0,.int .i64 0,.int .i64 0] 27 (0,0)) (kN BK424.out) NB424_428.out (by simp));replace HO431:=mk0 (Kd.R_mono (Kd.R_keep (IsS71.apart (show IsS71 w _ g428 t425 t432 t433 from by repeat (first|(with_reducible first|exact HI428.out|apply IsS71.alloc|apply IsS71.drewN|apply IsS71.drew|apply IsS71.set_1|apply IsS71.set_2|refine IsS71.far ?_ NB428_424.out _)|exact HI428.out)) (rR HO431.out) (by decide)) hk (fun _ h=>h.2)) (fun _ h=>h.1));replace HB:=mk0 (hb);replace HI428:=mk0 (hi);(try clear hb);(try clear hk);(try clear hi);have hnb10:=NB424_428.out;have hnc10:=NB428_424.out;obtain⟨hcz11_0,hcz11_1,hcz11_2,hfz11_0,hfz11_1,hfz11_2⟩:=cz3 BK424.out))
 refine bodyPost_ret (results_tc rfl _ _ gb424 27 #[.int .i64 t434,.int .i64 t435,.int .i64 t436] (0,0) _ rfl (by (with_reducible repeat (first|apply nB|apply dB|apply aB));refine blk_put (cs:=#[.int .i64 t434,.int .i64 t435,.int .i64 0]) ?_ 2 _ rfl;(with_reducible repeat (first|apply nB|apply dB|apply aB));refine blk_put (cs:=#[.int .i64 t434,.int .i64 0,.int .i64 0]) ?_ 1 _ rfl;(with_reducible repeat (first|apply nB|apply dB|apply aB));refine blk_put (cs:=#[.int .i64 0,.int .i64 0,.int .i64 0]) ?_ 0 _ rfl;(with_reducible repeat (first|apply nB|apply dB|apply aB));exact BK424.out) Try.underlying27 rfl (by kernel_rfl)) rfl ?_
 exact⟨_,by first|rfl|(simp [errW_none,errW_some] <;> rfl)|(simp [*,errW_none,errW_some] <;> rfl),by (with_reducible repeat (first|apply aR|apply nR|apply dR));exact Kd.R_mono (Kd.R_far (p:=⟨gb424,2,none⟩) (Kd.R_far (p:=⟨gb424,1,none⟩) (Kd.R_far (p:=⟨gb424,0,none⟩) (Kd.R_types HO431.out BK424.out (by decide)) (fun _ hk=>hk.2) (.int .i64 t434)) (fun _ hk=>hk.2) (.int .i64 t435)) (fun _ hk=>hk.2) (.int .i64 t436)) (fun _ hk=>trivial),by repeat (first|(with_reducible first|exact HB.out|apply aZ|apply nZ|apply dZ|refine sZ ?_ (IsS71.ge HI428.out)|refine sZ ?_ GE424.out)|exact HB.out)⟩

end Go.Proofs.Ytoinagnieobbpaa.QFnStretchWords
