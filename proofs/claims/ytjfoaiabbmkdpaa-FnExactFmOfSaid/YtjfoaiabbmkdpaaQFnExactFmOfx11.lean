-- A walk, made by walk.py, a program of this session's.
import Derived.Test.YtjfoaiabbmkdpaaFm
import Derived.Test.YtjfoaiabbmkdpaaQFnExactFmOfx0
import Derived.Test.YtjfoaiabbmkdpaaQFnExactFmOfx7
import Derived.Test.YtjfoaiabbmkdpaaQFnExactFmOfx8
import Derived.Test.YtjfoaiabbmkdpaaQFnExactFmOfx9
import Derived.Test.YtjfoaiabbmkdpaaQFnExactFmOfx10
namespace Go.Proofs.Ytjfoaiabbmkdpaa.QFnExactFmOf
open Go.RowKit Go.Proofs.YtjfoaiabbmkdpaaW.PrintWords Go.Proofs.YtjfoaiabbmkdpaaW.PrintLast Go.Proofs.YtjfoaiabbmkdpaaW.PrintMore
attribute [local go_sem] max2_int min2_int max_two min_two max_three min_three max_four min_four   -- for this text's walks alone
set_option linter.unusedVariables false
set_option linter.unusedSimpArgs false
/-! ### impl_fmOf: function 25 -/
mutual
def impl_fmOf.l0 : Nat → List Int → Int → List Int → List Int → List Int → List Int → Int → Int → Int → Int → Int → List Int → List (S29) → Int → Int → Int → Int → Int → Int → Int → Option (Int × Int × Int × List Int × (List (S29)) × List Int × Int × List Int × Int × Int × Int × List Int × Int × Int × Int × List Int)
 | 0, _, _, _, _, _, _, _, _, _, _, _, _, _, _, _, _, _, _, _, _ => none
 | k + 1, x0, x1, x8, x9, x16, x23, x32, x33, x423000, x423001, x423002, x423003, x423004, x423006, x423008, x423009, x423010, x423012, x423013, x423014 => if x33 < x32 then (if 0 ≤ x33 then (if x33 < (x16.length : Int) then (if x1 = 0 then (none) else (if (Int.tmod (rd x16 x33) x1) = 0 then ((some (([1] : List Int) : List Int)).bind fun y432 => (if x8.length + y432.length < 17592186044416 then ((some (([wrap64 (Int.tdiv (rd x16 x33) x1)] : List Int) : List Int)).bind fun y438 => (if x9.length + y438.length < 17592186044416 then (impl_fmOf.l0 k x0 x1 (x8 ++ y432) (x9 ++ y438) x16 x23 x32 (wrap64 (x33 + 1)) x423000 x423001 x423002 x423003 x423004 x423006 x423008 x423009 x423010 x423012 x423013 x423014) else (none))) else (none))) else ((some (([0] : List Int) : List Int)).bind fun y444 => (if x8.length + y444.length < 17592186044416 then (impl_fmOf.l0 k x0 x1 (x8 ++ y444) x9 x16 x23 x32 (wrap64 (x33 + 1)) x423000 x423001 x423002 x423003 x423004 x423006 x423008 x423009 x423010 x423012 x423013 x423014) else (none))))) else (none)) else (none)) else ((impl_inverse.f k x16).bind fun t450 => (impl_fmOf.l1 k x0 x1 x8 x9 ([] : List Int) 0 x23 t450 x423000 x423001 x423002 x423003 x423004 x423006 x423008 x423009 x423010 x423012 x423013 x423014))
def impl_fmOf.l1 : Nat → List Int → Int → List Int → List Int → List Int → Int → List Int → List Int → Int → Int → Int → List Int → List (S29) → Int → Int → Int → Int → Int → Int → Int → Option (Int × Int × Int × List Int × (List (S29)) × List Int × Int × List Int × Int × Int × Int × List Int × Int × Int × Int × List Int)
 | 0, _, _, _, _, _, _, _, _, _, _, _, _, _, _, _, _, _, _, _, _ => none
 | k + 1, x0, x1, x8, x9, x10, x14, x23, x55, x423000, x423001, x423002, x423003, x423004, x423006, x423008, x423009, x423010, x423012, x423013, x423014 => if x14 ≤ (x0.length : Int) then (if 0 ≤ x14 then (if x14 < (x55.length : Int) then ((some (([rd x55 x14] : List Int) : List Int)).bind fun y454 => (if x10.length + y454.length < 17592186044416 then (impl_fmOf.l1 k x0 x1 x8 x9 (x10 ++ y454) (wrap64 (x14 + x1)) x23 x55 x423000 x423001 x423002 x423003 x423004 x423006 x423008 x423009 x423010 x423012 x423013 x423014) else (none))) else (none)) else (none)) else ((impl_bitsOf.f k x8).bind fun bt460 => ((impl_WidthOf.f k (x0.length : Int)).bind fun t464 => ((impl_PackOf.f k x9 t464).bind fun bt465 => ((impl_WidthOf.f k (x0.length : Int)).bind fun t472 => ((impl_PackOf.f k x10 t472).bind fun bt473 => (some (x423000, x423001, x423002, x423003, x423004, x23, bt460.1, bt460.2, bt465.1, bt465.2.1, bt465.2.2.1, bt465.2.2.2.1, bt473.1, bt473.2.1, bt473.2.2.1, bt473.2.2.2.1)))))))
end
def impl_fmOf.f (k : Nat) (l0 : List Int) (a1 : Int) : Option (Int × Int × Int × List Int × (List (S29)) × List Int × Int × List Int × Int × Int × Int × List Int × Int × Int × Int × List Int) := (impl_suffixRows.f k l0).bind fun t413 => ((impl_bwtOf.f k l0).bind fun t416 => ((impl_counts.f k t416).bind fun t419 => ((impl_WaveOf.f k t416).bind fun bt423 => (impl_fmOf.l0 k l0 a1 ([] : List Int) ([] : List Int) t413 t419 (t413.length : Int) 0 (l0.length : Int) a1 bt423.1 bt423.2.1 bt423.2.2.1 0 0 0 0 0 0 0))))
def impl_fmOf.T10 : Bool × List (List Nat × List Nat) := (true, [([], []), ([], []), ([0, 1], [0, 1]), ([], []), ([], []), ([], []), ([4, 5], [4, 5]), ([6], [6]), ([3, 7, 2], [3, 7]), ([2, 8, 0, 1, 2], [0, 2]), ([8, 9, 0, 1, 2, 3, 4, 5, 6, 7, 8, 9], [3, 8])])
def impl_fmOf.B10 : List Nat := [0, 0, 3, 0, 0, 0, 48, 112, 255, 511, 1023]
theorem impl_fmOf.tab10 : rtab .any (opsOf Try.f25 10) = impl_fmOf.T10 := by kernel_rfl
theorem impl_fmOf.bits10 : waitsOk impl_fmOf.T10.2 impl_fmOf.B10 = true := by kernel_rfl
/-- An index's rows, each apart from the others. -/
def J6 (w w' : World) (v3 v4 v5 v7 v11 v15 : Value) (z : List Int) (L : List (S29)) (c m s i : List Int) : Prop := ∃ f, Fm.M6 k29 29 f w w' v3 v4 v5 v7 v11 v15 z L c m s i
set_option maxHeartbeats 8000000 in
set_option maxRecDepth 100000 in
theorem impl_fmOf.calls (k : Nat) (A0 : Option Addr) (c0 : Nat) (l0 : List Int) (a1 : Int) (r1 r2 r3 : Int) (r4 : List Int) (r5 : List (S29)) (r6 : List Int) (r7 : Int) (r8 : List Int) (r9 r10 r11 : Int) (r12 : List Int) (r13 r14 r15 : Int) (r16 : List Int) (w : World) (hr0 : Kd.C (Kd.int .u8) w A0 l0.length l0) (hc0 : l0.length ≤ c0) (h : impl_fmOf.f k l0 a1 = some (r1,r2,r3,r4,r5,r6,r7,r8,r9,r10,r11,r12,r13,r14,r15,r16)) :
  Calls Try.prog 25 #[.slice A0 l0.length c0, .int .i64 a1] w fun e w' => ∃ v3_ v4_ v5_ v7_ v11_ v15_ : Value, e = .returned (.agg #[.int .i64 r1, .int .i64 r2, .int .i64 r3, v3_, v4_, v5_, .int .i64 r7, v7_, .int .i64 r9, .int .i64 r10, .int .i64 r11, v11_, .int .i64 r13, .int .i64 r14, .int .i64 r15, v15_]) ∧ J6 w w' v3_ v4_ v5_ v7_ v11_ v15_ r4 r5 r6 r8 r12 r16 ∧ Below w.heap.size w w' := by
 have hu33:=Try.underlying33
 have hu26:=Try.underlying26
 have hu29:=Try.underlying29
 have hu31:=Try.underlying31
 have HR0:=mk0 hr0
 have HC0:=mk0 hc0
 clear hr0 hc0
 unfold impl_fmOf.f at h
 replace h:=bE h
 obtain⟨t413,A10,h⟩:=h
 replace h:=bE h
 obtain⟨t416,A11,h⟩:=h
 replace h:=bE h
 obtain⟨t419,A12,h⟩:=h
 replace h:=bE h
 obtain⟨⟨t423,t424,t427,t430⟩,A13,h⟩:=h
 dsimp only at h
 have H':=mk0 h
 clear h
 go_enter Try.func25,Try.ntmps25
 go_wp2_with (first
  |((with_reducible refine gate_dst (N:=4) rfl ?_);refine box_event ?hg (N:=4) ?hd (cs:=#[.int .i64 0,.int .i64 0,.int .i64 0,.slice none 0 0,.slice none 0 0,.slice none 0 0,.int .i64 0,.slice none 0 0,.int .i64 0,.int .i64 0,.int .i64 0,.slice none 0 0,.int .i64 0,.int .i64 0,.int .i64 0,.slice none 0 0]) (t:=33) ?hr ?_;(case hd=>rfl);(case hg=>rfl);(case hr=>first|(go_simp;done)|(go_simp;rfl));intro ga hg w4 hbox hb;have HW:=mk0 (Fm.W2.start (below_then (Below.refl w.heap.size w) (Nat.le_refl _) hb) (by rw [hg];exact Nat.le_refl _) hbox);clear hb hbox hg)
  |((with_reducible refine gate_callee (f:=43) rfl ?_);refine gL (some 16) Try.func43 #[.slice A0 l0.length c0] ?_;(with_reducible refine (impl_suffixRows.calls k _ _ l0 t413 _ ?side1 ?side2 A10.out).mono ?_);(case side1=>exact kC (Kd.C_below HR0.out HW.out.be));(case side2=>exact HC0.out);rintro e w5 ⟨v5_,rfl,ho0,hb⟩;refine⟨_,rfl,?_⟩;obtain⟨Ar,cr,e_⟩:=Kd.R_slice ho0;subst e_;replace HW:=mk0 ((HW.out.below hb).addR (Kd.R_lower ho0 HW.out.be.size) (by decide));clear hb ho0)
  |((with_reducible refine gate_callee (f:=44) rfl ?_);refine gL (some 18) Try.func44 #[.slice A0 l0.length c0] ?_;(with_reducible refine (impl_bwtOf.calls k _ _ l0 t416 _ ?side1 ?side2 A11.out).mono ?_);(case side1=>exact kC (Kd.C_below HR0.out HW.out.be));(case side2=>exact HC0.out);rintro e w7 ⟨v7_,rfl,ho0,hb⟩;refine⟨_,rfl,?_⟩;obtain⟨Ab,cb,e_⟩:=Kd.R_slice ho0;subst e_;replace HW:=mk0 ((HW.out.below hb).addR (Kd.R_lower ho0 HW.out.be.size) (by decide));clear hb ho0)
  |((with_reducible refine gate_callee (f:=45) rfl ?_);refine gL (some 23) Try.func45 #[.slice Ab t416.length cb] ?_;(with_reducible refine (impl_counts.calls k _ _ t416 t419 _ ?side1 ?side2 A12.out).mono ?_);(case side1=>exact kC (Kd.R_reads' HW.out.now.2).2.2);(case side2=>exact (Kd.R_reads' HW.out.now.2).2.1);rintro e w8 ⟨v8_,rfl,ho0,hb⟩;refine⟨_,rfl,?_⟩;obtain⟨Ac,cc,e_⟩:=Kd.R_slice ho0;subst e_;replace HW:=mk0 ((HW.out.below hb).addR (Kd.R_lower ho0 HW.out.be.size) (by decide));clear hb ho0)
  |((with_reducible refine gate_dst (N:=7) rfl ?_);refine box_event ?hg (N:=7) ?hd (cs:=#[.int .i64 0,.int .i64 0,.int .i64 0,.slice none 0 0,.slice none 0 0,.slice none 0 0,.int .i64 0,.slice none 0 0,.int .i64 0,.int .i64 0,.int .i64 0,.slice none 0 0,.int .i64 0,.int .i64 0,.int .i64 0,.slice none 0 0]) (t:=33) ?hr ?_;(case hd=>rfl);(case hg=>rfl);(case hr=>first|(go_simp;done)|(go_simp;rfl));intro gb hg w9 hbox hb;obtain⟨HW_,HN_⟩:=HW.out.box hg hbox hb;clear HW;have HW:=mk0 HW_;have HN:=mk0 HN_;clear hg hbox hb HW_ HN_)
  |((with_reducible refine gate_store (t:=33) (p:=7) (v:=.tmp 24) rfl ?_);refine store_event (t:=33) (p:=7) (v:=.tmp 24) (w1:=(World.setCell (World.setCell (World.setCell (World.setCell (World.setCell (World.setCell (World.setCell (World.setCell (World.setCell (World.setCell (World.setCell (World.setCell (World.setCell (World.setCell (World.setCell (World.setCell w9 ⟨gb,0,none⟩ (.int .i64 (l0.length:Int))) ⟨gb,1,none⟩ (.int .i64 a1)) ⟨gb,2,none⟩ (.int .i64 0)) ⟨gb,3,none⟩ (.slice none 0 0)) ⟨gb,4,none⟩ (.slice none 0 0)) ⟨gb,5,none⟩ (.slice Ac t419.length cc)) ⟨gb,6,none⟩ (.int .i64 0)) ⟨gb,7,none⟩ (.slice none 0 0)) ⟨gb,8,none⟩ (.int .i64 0)) ⟨gb,9,none⟩ (.int .i64 0)) ⟨gb,10,none⟩ (.int .i64 0)) ⟨gb,11,none⟩ (.slice none 0 0)) ⟨gb,12,none⟩ (.int .i64 0)) ⟨gb,13,none⟩ (.int .i64 0)) ⟨gb,14,none⟩ (.int .i64 0)) ⟨gb,15,none⟩ (.slice none 0 0))) ?hg ?ho ?hn ?hr ?_;(case ho=>rfl);(case hg=>rfl);(case hn=>rfl);(case hr=>have c0_:_ = some (Value.int .i64 0):=(blk_cell HW.out.bb 0).trans rfl;have f0_:=blk_frozen HW.out.bb 0;have c1_:_ = some (Value.int .i64 0):=(blk_cell HW.out.bb 1).trans rfl;have f1_:=blk_frozen HW.out.bb 1;have c2_:_ = some (Value.int .i64 0):=(blk_cell HW.out.bb 2).trans rfl;have f2_:=blk_frozen HW.out.bb 2;have c3_:_ = some (Value.slice none 0 0):=(blk_cell HW.out.bb 3).trans rfl;have f3_:=blk_frozen HW.out.bb 3;have c4_:_ = some (Value.slice none 0 0):=(blk_cell HW.out.bb 4).trans rfl;have f4_:=blk_frozen HW.out.bb 4;have c5_:_ = some (Value.slice none 0 0):=(blk_cell HW.out.bb 5).trans rfl;have f5_:=blk_frozen HW.out.bb 5;have c6_:_ = some (Value.int .i64 0):=(blk_cell HW.out.bb 6).trans rfl;have f6_:=blk_frozen HW.out.bb 6;have c7_:_ = some (Value.slice none 0 0):=(blk_cell HW.out.bb 7).trans rfl;have f7_:=blk_frozen HW.out.bb 7;have c8_:_ = some (Value.int .i64 0):=(blk_cell HW.out.bb 8).trans rfl;have f8_:=blk_frozen HW.out.bb 8;have c9_:_ = some (Value.int .i64 0):=(blk_cell HW.out.bb 9).trans rfl;have f9_:=blk_frozen HW.out.bb 9;have c10_:_ = some (Value.int .i64 0):=(blk_cell HW.out.bb 10).trans rfl;have f10_:=blk_frozen HW.out.bb 10;have c11_:_ = some (Value.slice none 0 0):=(blk_cell HW.out.bb 11).trans rfl;have f11_:=blk_frozen HW.out.bb 11;have c12_:_ = some (Value.int .i64 0):=(blk_cell HW.out.bb 12).trans rfl;have f12_:=blk_frozen HW.out.bb 12;have c13_:_ = some (Value.int .i64 0):=(blk_cell HW.out.bb 13).trans rfl;have f13_:=blk_frozen HW.out.bb 13;have c14_:_ = some (Value.int .i64 0):=(blk_cell HW.out.bb 14).trans rfl;have f14_:=blk_frozen HW.out.bb 14;have c15_:_ = some (Value.slice none 0 0):=(blk_cell HW.out.bb 15).trans rfl;have f15_:=blk_frozen HW.out.bb 15;first|(go_simp;done)|(go_simp;rfl));intro w10 hw;replace HW:=mk0 (HW.out.setb HN.out (W1:=w10) (c1:=#[.int .i64 (l0.length:Int),.int .i64 a1,.int .i64 0,.slice none 0 0,.slice none 0 0,.slice Ac t419.length cc,.int .i64 0,.slice none 0 0,.int .i64 0,.int .i64 0,.int .i64 0,.slice none 0 0,.int .i64 0,.int .i64 0,.int .i64 0,.slice none 0 0]) (by rw [hw];exact Fm.gg (Fm.gg (Fm.gg (Fm.gg (Fm.gg (Fm.gg (Fm.gg (Fm.gg (Fm.gg (Fm.gg (Fm.gg (Fm.gg (Fm.gg (Fm.gg (Fm.gg (Fm.gc _ gb 0 _) (Fm.gc _ gb 1 _)) (Fm.gc _ gb 2 _)) (Fm.gc _ gb 3 _)) (Fm.gc _ gb 4 _)) (Fm.gc _ gb 5 _)) (Fm.gc _ gb 6 _)) (Fm.gc _ gb 7 _)) (Fm.gc _ gb 8 _)) (Fm.gc _ gb 9 _)) (Fm.gc _ gb 10 _)) (Fm.gc _ gb 11 _)) (Fm.gc _ gb 12 _)) (Fm.gc _ gb 13 _)) (Fm.gc _ gb 14 _)) (Fm.gc _ gb 15 _)) (by rw [hw];exact (blk_put (cs':=#[.int .i64 (l0.length:Int),.int .i64 a1,.int .i64 0,.slice none 0 0,.slice none 0 0,.slice Ac t419.length cc,.int .i64 0,.slice none 0 0,.int .i64 0,.int .i64 0,.int .i64 0,.slice none 0 0,.int .i64 0,.int .i64 0,.int .i64 0,.slice none 0 0]) (blk_put (cs':=#[.int .i64 (l0.length:Int),.int .i64 a1,.int .i64 0,.slice none 0 0,.slice none 0 0,.slice Ac t419.length cc,.int .i64 0,.slice none 0 0,.int .i64 0,.int .i64 0,.int .i64 0,.slice none 0 0,.int .i64 0,.int .i64 0,.int .i64 0,.slice none 0 0]) (blk_put (cs':=#[.int .i64 (l0.length:Int),.int .i64 a1,.int .i64 0,.slice none 0 0,.slice none 0 0,.slice Ac t419.length cc,.int .i64 0,.slice none 0 0,.int .i64 0,.int .i64 0,.int .i64 0,.slice none 0 0,.int .i64 0,.int .i64 0,.int .i64 0,.slice none 0 0]) (blk_put (cs':=#[.int .i64 (l0.length:Int),.int .i64 a1,.int .i64 0,.slice none 0 0,.slice none 0 0,.slice Ac t419.length cc,.int .i64 0,.slice none 0 0,.int .i64 0,.int .i64 0,.int .i64 0,.slice none 0 0,.int .i64 0,.int .i64 0,.int .i64 0,.slice none 0 0]) (blk_put (cs':=#[.int .i64 (l0.length:Int),.int .i64 a1,.int .i64 0,.slice none 0 0,.slice none 0 0,.slice Ac t419.length cc,.int .i64 0,.slice none 0 0,.int .i64 0,.int .i64 0,.int .i64 0,.slice none 0 0,.int .i64 0,.int .i64 0,.int .i64 0,.slice none 0 0]) (blk_put (cs':=#[.int .i64 (l0.length:Int),.int .i64 a1,.int .i64 0,.slice none 0 0,.slice none 0 0,.slice Ac t419.length cc,.int .i64 0,.slice none 0 0,.int .i64 0,.int .i64 0,.int .i64 0,.slice none 0 0,.int .i64 0,.int .i64 0,.int .i64 0,.slice none 0 0]) (blk_put (cs':=#[.int .i64 (l0.length:Int),.int .i64 a1,.int .i64 0,.slice none 0 0,.slice none 0 0,.slice Ac t419.length cc,.int .i64 0,.slice none 0 0,.int .i64 0,.int .i64 0,.int .i64 0,.slice none 0 0,.int .i64 0,.int .i64 0,.int .i64 0,.slice none 0 0]) (blk_put (cs':=#[.int .i64 (l0.length:Int),.int .i64 a1,.int .i64 0,.slice none 0 0,.slice none 0 0,.slice Ac t419.length cc,.int .i64 0,.slice none 0 0,.int .i64 0,.int .i64 0,.int .i64 0,.slice none 0 0,.int .i64 0,.int .i64 0,.int .i64 0,.slice none 0 0]) (blk_put (cs':=#[.int .i64 (l0.length:Int),.int .i64 a1,.int .i64 0,.slice none 0 0,.slice none 0 0,.slice Ac t419.length cc,.int .i64 0,.slice none 0 0,.int .i64 0,.int .i64 0,.int .i64 0,.slice none 0 0,.int .i64 0,.int .i64 0,.int .i64 0,.slice none 0 0]) (blk_put (cs':=#[.int .i64 (l0.length:Int),.int .i64 a1,.int .i64 0,.slice none 0 0,.slice none 0 0,.slice Ac t419.length cc,.int .i64 0,.slice none 0 0,.int .i64 0,.int .i64 0,.int .i64 0,.slice none 0 0,.int .i64 0,.int .i64 0,.int .i64 0,.slice none 0 0]) (blk_put (cs':=#[.int .i64 (l0.length:Int),.int .i64 a1,.int .i64 0,.slice none 0 0,.slice none 0 0,.slice Ac t419.length cc,.int .i64 0,.slice none 0 0,.int .i64 0,.int .i64 0,.int .i64 0,.slice none 0 0,.int .i64 0,.int .i64 0,.int .i64 0,.slice none 0 0]) (blk_put (cs':=#[.int .i64 (l0.length:Int),.int .i64 a1,.int .i64 0,.slice none 0 0,.slice none 0 0,.slice none 0 0,.int .i64 0,.slice none 0 0,.int .i64 0,.int .i64 0,.int .i64 0,.slice none 0 0,.int .i64 0,.int .i64 0,.int .i64 0,.slice none 0 0]) (blk_put (cs':=#[.int .i64 (l0.length:Int),.int .i64 a1,.int .i64 0,.slice none 0 0,.slice none 0 0,.slice none 0 0,.int .i64 0,.slice none 0 0,.int .i64 0,.int .i64 0,.int .i64 0,.slice none 0 0,.int .i64 0,.int .i64 0,.int .i64 0,.slice none 0 0]) (blk_put (cs':=#[.int .i64 (l0.length:Int),.int .i64 a1,.int .i64 0,.slice none 0 0,.slice none 0 0,.slice none 0 0,.int .i64 0,.slice none 0 0,.int .i64 0,.int .i64 0,.int .i64 0,.slice none 0 0,.int .i64 0,.int .i64 0,.int .i64 0,.slice none 0 0]) (blk_put (cs':=#[.int .i64 (l0.length:Int),.int .i64 a1,.int .i64 0,.slice none 0 0,.slice none 0 0,.slice none 0 0,.int .i64 0,.slice none 0 0,.int .i64 0,.int .i64 0,.int .i64 0,.slice none 0 0,.int .i64 0,.int .i64 0,.int .i64 0,.slice none 0 0]) (blk_put (cs':=#[.int .i64 (l0.length:Int),.int .i64 0,.int .i64 0,.slice none 0 0,.slice none 0 0,.slice none 0 0,.int .i64 0,.slice none 0 0,.int .i64 0,.int .i64 0,.int .i64 0,.slice none 0 0,.int .i64 0,.int .i64 0,.int .i64 0,.slice none 0 0]) HW.out.bb 0 _ rfl) 1 _ rfl) 2 _ rfl) 3 _ rfl) 4 _ rfl) 5 _ rfl) 6 _ rfl) 7 _ rfl) 8 _ rfl) 9 _ rfl) 10 _ rfl) 11 _ rfl) 12 _ rfl) 13 _ rfl) 14 _ rfl) 15 _ rfl)));clear hw)
  |((with_reducible refine gate_callee (f:=46) rfl ?_);refine gL (some 27) Try.func46 #[.slice Ab t416.length cb] ?_;(with_reducible refine (impl_WaveOf.calls k (fun _=>True) _ _ t416 t423 t424 t427 t430 _ ?side1 A13.out).mono ?_);(case side1=>exact Kd.R_V (HW.out.now.1.2));rintro e w11 ⟨vz_,vl_,rfl,ho0,ho1,hb⟩;refine⟨_,rfl,?_⟩;obtain⟨Az,cz,e_⟩:=Kd.R_slice ho0;subst e_;obtain⟨Al,cl,e_⟩:=Kd.S_slice ho1;subst e_;replace HW:=mk0 ((((HW.out.up HW.out.now.2 (by decide)).below hb).addR (Fm.lo ho0 HW.out.be.size) (by decide)).addS (Fm.loS ho1 HW.out.be.size) (by decide));clear hb ho0 ho1)
  |((with_reducible refine gate_store (t:=26) (p:=30) (v:=.tmp 28) rfl ?_);refine store_event (t:=26) (p:=30) (v:=.tmp 28) (w1:=(World.setCell (World.setCell (World.setCell w11 ⟨gb,2,none⟩ (.int .i64 t423)) ⟨gb,3,none⟩ (.slice Az t424.length cz)) ⟨gb,4,none⟩ (.slice Al t427.length cl))) ?hg ?ho ?hn ?hr ?_;(case ho=>rfl);(case hg=>rfl);(case hn=>rfl);(case hr=>have c2_:_ = some (Value.int .i64 0):=(blk_cell HW.out.bb 2).trans rfl;have f2_:=blk_frozen HW.out.bb 2;have c3_:_ = some (Value.slice none 0 0):=(blk_cell HW.out.bb 3).trans rfl;have f3_:=blk_frozen HW.out.bb 3;have c4_:_ = some (Value.slice none 0 0):=(blk_cell HW.out.bb 4).trans rfl;have f4_:=blk_frozen HW.out.bb 4;first|(go_simp;done)|(go_simp;rfl));intro w12 hw;replace HW:=mk0 (HW.out.setb HN.out (W1:=w12) (c1:=#[.int .i64 (l0.length:Int),.int .i64 a1,.int .i64 t423,.slice Az t424.length cz,.slice Al t427.length cl,.slice Ac t419.length cc,.int .i64 0,.slice none 0 0,.int .i64 0,.int .i64 0,.int .i64 0,.slice none 0 0,.int .i64 0,.int .i64 0,.int .i64 0,.slice none 0 0]) (by rw [hw];exact Fm.gg (Fm.gg (Fm.gc _ gb 2 _) (Fm.gc _ gb 3 _)) (Fm.gc _ gb 4 _)) (by rw [hw];exact (blk_put (cs':=#[.int .i64 (l0.length:Int),.int .i64 a1,.int .i64 t423,.slice Az t424.length cz,.slice Al t427.length cl,.slice Ac t419.length cc,.int .i64 0,.slice none 0 0,.int .i64 0,.int .i64 0,.int .i64 0,.slice none 0 0,.int .i64 0,.int .i64 0,.int .i64 0,.slice none 0 0]) (blk_put (cs':=#[.int .i64 (l0.length:Int),.int .i64 a1,.int .i64 t423,.slice Az t424.length cz,.slice none 0 0,.slice Ac t419.length cc,.int .i64 0,.slice none 0 0,.int .i64 0,.int .i64 0,.int .i64 0,.slice none 0 0,.int .i64 0,.int .i64 0,.int .i64 0,.slice none 0 0]) (blk_put (cs':=#[.int .i64 (l0.length:Int),.int .i64 a1,.int .i64 t423,.slice none 0 0,.slice none 0 0,.slice Ac t419.length cc,.int .i64 0,.slice none 0 0,.int .i64 0,.int .i64 0,.int .i64 0,.slice none 0 0,.int .i64 0,.int .i64 0,.int .i64 0,.slice none 0 0]) HW.out.bb 2 _ rfl) 3 _ rfl) 4 _ rfl)));clear hw))
 have H2:=mk0 (show impl_fmOf.l0 k l0 a1 [] [] t413 t419 (t413.length:Int) 0 (l0.length:Int) a1 t423 t424 t427 0 0 0 0 0 0 0 = some (r1,r2,r3,r4,r5,r6,r7,r8,r9,r10,r11,r12,r13,r14,r15,r16) from H'.out)
 clear H'
 have HRO:=mk0 (fun (W:World) (hb:Below w12.heap.size w12 W)=>(Kd.R_reads' (HW.out.below hb).now.1.1.1.1.1.2).2.2)
 go_loopg [8,9,33] k (fun kq v8 v9 v33 w'=>∃ (x8 x9:List Int) (x33:Int),v33 = .int .i64 x33 ∧ Aside0 (impl_fmOf.l0 kq l0 a1 x8 x9 t413 t419 (t413.length:Int) x33 (l0.length:Int) a1 t423 t424 t427 0 0 0 0 0 0 0 = some (r1,r2,r3,r4,r5,r6,r7,r8,r9,r10,r11,r12,r13,r14,r15,r16)) ∧ Aside0 (kq ≤ k) ∧ Aside0 (Fm.Two (Kd.int .i64) (Kd.int .i64) 3 3 w12 w' v8 v9 x8 x9))
 case atStart=>exact⟨[],[],0,eS,H2,⟨Nat.le_refl _⟩,⟨Fm.Two.nil w12⟩⟩
 case round =>
  clear H2
  obtain⟨x8,x9,x33,rfl,HA,HK2,HT⟩:=hrel
  cases gk with
  | zero=>exact absurd HA.out (by simp [impl_fmOf.l0])
  | succ k2 =>
   have H:=HA.out
   clear HA
   simp only [impl_fmOf.l0] at H
   by_cases c33:x33 < (t413.length:Int)
   ·rw [if_pos c33] at H
    have c33b0:decide (x33 < (t413.length:Int)) = true:=decide_eq_true c33
    by_cases c34:0 ≤ x33
    rotate_left
    ·rw [if_neg c34] at H
     exact nn H
    rw [if_pos c34] at H
    have c34b0:decide (0 ≤ x33) = true:=decide_eq_true c34
    rw [if_pos c33] at H
    by_cases c35:a1 = 0
    ·rw [if_pos c35] at H
     exact nn H
    rw [if_neg c35] at H
    have c35b0:(a1 == 0) = false:=beq_eq_false_iff_ne.mpr c35
    have c35b1:(a1 != 0) = true:=bne_iff_ne.mpr c35
    obtain⟨ad,e_,hx_⟩:=Kd.at_int (HRO.out wr HT.out.be) x33 c34 c33
    cases e_
    clear c33 c34
    have p_:(0 ≤ x33) = True:=eq_true (oD)
    have q_:(x33 < (t413.length:Int)) = True:=eq_true (oD)
    by_cases c38:(Int.tmod (rd t413 x33) a1) = 0
    rotate_left
    ·rw [if_neg c38,Option.bind_some] at H
     have c38b0:((Int.tmod (rd t413 x33) a1) == 0) = false:=beq_eq_false_iff_ne.mpr c38
     have c38b1:((Int.tmod (rd t413 x33) a1) != 0) = true:=bne_iff_ne.mpr c38
     by_cases c37:x8.length + ([0]:List Int).length < 17592186044416
     rotate_left
     ·rw [if_neg c37] at H
      exact nn H
     rw [if_pos c37] at H
     have LM1:=mk0 (show x8.length + 1 < 17592186044416 from c37)
     clear c37
     have H2:=mk0 H
     clear H
     go_wp2_with (first|((with_reducible refine gate_builtin (b:=.append) (xs:=#[.tmp 50,.tmp 51]) rfl ?_);at_builtin;refine Kd.R_append (Kd.int .i64) (w0:=w12) w12.heap.size rfl (.tmp 50) (.tmp 51) 23 3 (.int .i64 0) 8 rfl Try.underlying23 info3 rfl (by decide) (by omega) u8 x8 0 [.int .i64 (0)] (fun _=>True) (fun _=>False) rfl rfl (rfl) (fun _ hk=>hk.elim) (fun _ _=>trivial) HT.out.r HT.out.be HT.out.be.size (by have:=LM1.out;omega) ?_;intro vm w40 ho hb hg hat;replace HT:=mk0 (HT.out.app1 rfl ho hb hg hat);clear ho hb hg hat))
     go_roundg k2
     case measure=>have:=HK2.out;omega
     case rel=>exact⟨_,_,(wrap64 (x33 + 1)),eS,H2,⟨by have:=HK2.out;omega⟩,HT⟩
    rw [if_pos c38,Option.bind_some] at H
    have c38b0:((Int.tmod (rd t413 x33) a1) == 0) = true:=beq_iff_eq.mpr c38
    have c38b1:((Int.tmod (rd t413 x33) a1) != 0) = false:=bne_eq_false_iff_eq.mpr c38
    clear c38
    by_cases c37:x8.length + ([1]:List Int).length < 17592186044416
    rotate_left
    ·rw [if_neg c37] at H
     exact nn H
    rw [if_pos c37,Option.bind_some] at H
    have LM1:=mk0 c37
    clear c37
    by_cases c39:x9.length + ([wrap64 (Int.tdiv (rd t413 x33) a1)]:List Int).length < 17592186044416
    rotate_left
    ·rw [if_neg c39] at H
     exact nn H
    rw [if_pos c39] at H
    have LM2:=mk0 c39
    clear c39
    have H2:=mk0 H
    clear H
    try go_wp2
    replace HT:=mk0 (HT.out.step (below_drew (Below.refl _ _)))
    refine start_ (n:=11) (S:=fun w'=>True) (ds:=[]) (bm 11 0) (by kernel_rfl) rfl (by kernel_rfl) trivial (fun hHeld=>?_);refine with_tabW impl_fmOf.tab10 impl_fmOf.bits10 (fun HT_ HW_=>?_)
    generalize wr.drew = w31 at HT hHeld ⊢
    refine pU 0 (some 41) (bm 11 1) HT_ ?_
    refine pU 3 (some 44) (bm 11 9) HT_ ?_
    refine pU 4 (some 45) (bm 11 25) HT_ ?_
    refine pU 5 (some 46) (bm 11 57) HT_ ?_
    refine pU 6 (some 47) (bm 11 121) HT_ ?_
    refine join_ (σ:=Value × Value × Value) 3 (bm 11 255) (fun s_=>[(42,s_.1),(43,s_.2.1),(48,s_.2.2)]) (fun s_ w'=>Aside0 (Fm.T3 w12 w' s_.2.1 u9 s_.2.2 (x8 ++ [1]) x9 [wrap64 (Int.tdiv (rd t413 x33) a1)])) ?_ ?_
    rotate_left
    ·intro hCont
     refine two_ (i:=1) (j:=7) (Ni:=some 42) (Nj:=some 48) (bm 11 123) (bm 11 249) rfl rfl rfl rfl (two_of HT_.out (by kernel_rfl)) (by decide) (by decide) (fun K hK=>?_) (fun K hK=>?_)
     ·skip
      refine Kd.R_lit_step (Kd.int .i64) _ 3 ?hg (N:=42) ?hd (xs:=([1]:List Int)) (inner:=[.int .i64 (1)]) (ok:=fun _=>True) (okp:=fun _=>True) ?hr ?hp (fun _ hk=>hk) trivial (Below.refl _ _) (Nat.le_refl _) (by simp) ?_;(case hd=>rfl);(case hg=>rfl);(case hr=>first|(go_simp;done)|(go_simp;rfl));(case hp=>exact (Reps.one (show Kd.M (Kd.int .i64) _ _ _ (1) [.int .i64 (1)] from rfl) (Reps.none _ _)))
      intro vp w32 hp hb hg_ hn_
      replace HT:=mk0 (HT.out.step hb)
      have HP:=mk0 hp
      clear hb hp hg_ hn_
      obtain⟨Ap,cp,e_⟩:=Kd.R_slice HP.out
      subst e_
      refine hK.out _ _ trivial (fun hHeld=>?_)
      clear hK K
      refine pN (some 42) ?_
      refine two_ (i:=2) (j:=7) (Ni:=some 43) (Nj:=some 48) (bm 11 127) (bm 11 251) rfl rfl rfl rfl (two_of HT_.out (by kernel_rfl)) (by decide) (by decide) (fun K hK=>?_) (fun K hK=>?_)
      ·skip
       refine Kd.R_append_rows_step (Kd.int .i64) (w0:=w12) w12.heap.size (by rfl) (.tmp 41) (.tmp 42) 23 3 (.int .i64 0) 8 rfl Try.underlying23 info3 rfl (by decide) (by omega) u8 x8 [1] _ _ _ (fun _=>True) (fun _=>False) rfl rfl HT.out.r (Kd.R_reads' HP.out).2.2 (fun _ _ h=>h) (fun _ h=>h.elim) (fun _ _=>trivial) HT.out.be HT.out.be.size (by have:=LM1.out;omega) ?_
       intro v1 w34 ho hb hg hat
       replace HT:=mk0 (HT.out.app1 rfl ho hb hg hat)
       clear ho hb hg hat
       refine hK.out _ _ trivial (fun hHeld=>?_)
       clear hK K
       refine pN (some 43) ?_
       refine pO 7 (some 48) (bm 11 255) HT_ (fun K hK=>?_)
       refine Kd.R_lit_step (Kd.int .i64) _ 3 ?hg (N:=48) ?hd (xs:=([wrap64 (Int.tdiv (rd t413 x33) a1)]:List Int)) (inner:=[.int .i64 (wrap64 (Int.tdiv (rd t413 x33) a1))]) (ok:=fun _=>True) (okp:=fun _=>True) ?hr ?hp (fun _ hk=>hk) trivial (Below.refl _ _) (Nat.le_refl _) (by simp) ?_;(case hd=>rfl);(case hg=>rfl);(case hr=>first|(go_simp;done)|(go_simp;rfl));(case hp=>exact (Reps.one (show Kd.M (Kd.int .i64) _ _ _ (wrap64 (Int.tdiv (rd t413 x33) a1)) [.int .i64 (wrap64 (Int.tdiv (rd t413 x33) a1))] from rfl) (Reps.none _ _)))
       intro vq w36 hq hb hg_ hn_
       have HT3:=mk0 (Fm.T3.of HT.out hb hq)
       clear hb hq hg_ hn_
       refine hK.out _ _ trivial (fun hHeld=>?_)
       clear hK K
       refine pN (some 48) ?_
       exact norm_ (by simp only [putAll,Act.put,sA,sO,sS]) (hCont (.slice Ap ([1]:List Int).length cp,v1,vq) _ HT3)
      ·skip
       refine Kd.R_lit_step (Kd.int .i64) _ 3 ?hg (N:=48) ?hd (xs:=([wrap64 (Int.tdiv (rd t413 x33) a1)]:List Int)) (inner:=[.int .i64 (wrap64 (Int.tdiv (rd t413 x33) a1))]) (ok:=fun _=>True) (okp:=fun _=>True) ?hr ?hp (fun _ hk=>hk) trivial (Below.refl _ _) (Nat.le_refl _) (by simp) ?_;(case hd=>rfl);(case hg=>rfl);(case hr=>first|(go_simp;done)|(go_simp;rfl));(case hp=>exact (Reps.one (show Kd.M (Kd.int .i64) _ _ _ (wrap64 (Int.tdiv (rd t413 x33) a1)) [.int .i64 (wrap64 (Int.tdiv (rd t413 x33) a1))] from rfl) (Reps.none _ _)))
       intro vq w34 hq hb hg_ hn_
       have HT3:=mk0 (Fm.T3.of HT.out hb hq)
       replace HP:=mk0 (Kd.R_below HP.out hb)
       clear hb hq hg_ hn_
       refine hK.out _ _ trivial (fun hHeld=>?_)
       clear hK K
       refine pN (some 48) ?_
       refine pO 2 (some 43) (bm 11 255) HT_ (fun K hK=>?_)
       refine Kd.R_append_rows_step (Kd.int .i64) (w0:=w12) w12.heap.size (by rfl) (.tmp 41) (.tmp 42) 23 3 (.int .i64 0) 8 rfl Try.underlying23 info3 rfl (by decide) (by omega) u8 x8 [1] _ _ _ (fun _=>True) (fun _=>False) rfl rfl HT3.out.two.r (Kd.R_reads' HP.out).2.2 (fun _ _ h=>h) (fun _ h=>h.elim) (fun _ _=>trivial) HT3.out.two.be HT3.out.two.be.size (by have:=LM1.out;omega) ?_
       intro v1 w36 ho hb hg hat
       replace HT3:=mk0 (HT3.out.app1 ho hb hg hat)
       clear ho hb hg hat
       refine hK.out _ _ trivial (fun hHeld=>?_)
       clear hK K
       refine pN (some 43) ?_
       exact norm_ (by simp only [putAll,Act.put,sA,sO,sS]) (hCont (.slice Ap ([1]:List Int).length cp,v1,vq) _ HT3)
     ·skip
      refine Kd.R_lit_step (Kd.int .i64) _ 3 ?hg (N:=48) ?hd (xs:=([wrap64 (Int.tdiv (rd t413 x33) a1)]:List Int)) (inner:=[.int .i64 (wrap64 (Int.tdiv (rd t413 x33) a1))]) (ok:=fun _=>True) (okp:=fun _=>True) ?hr ?hp (fun _ hk=>hk) trivial (Below.refl _ _) (Nat.le_refl _) (by simp) ?_;(case hd=>rfl);(case hg=>rfl);(case hr=>first|(go_simp;done)|(go_simp;rfl));(case hp=>exact (Reps.one (show Kd.M (Kd.int .i64) _ _ _ (wrap64 (Int.tdiv (rd t413 x33) a1)) [.int .i64 (wrap64 (Int.tdiv (rd t413 x33) a1))] from rfl) (Reps.none _ _)))
      intro vq w32 hq hb hg_ hn_
      have HT3:=mk0 (Fm.T3.of HT.out hb hq)
      clear hb hq hg_ hn_
      refine hK.out _ _ trivial (fun hHeld=>?_)
      clear hK K
      refine pN (some 48) ?_
      refine pO 1 (some 42) (bm 11 251) HT_ (fun K hK=>?_)
      refine Kd.R_lit_step (Kd.int .i64) _ 3 ?hg (N:=42) ?hd (xs:=([1]:List Int)) (inner:=[.int .i64 (1)]) (ok:=fun _=>True) (okp:=fun _=>True) ?hr ?hp (fun _ hk=>hk) trivial (Below.refl _ _) (Nat.le_refl _) (by simp) ?_;(case hd=>rfl);(case hg=>rfl);(case hr=>first|(go_simp;done)|(go_simp;rfl));(case hp=>exact (Reps.one (show Kd.M (Kd.int .i64) _ _ _ (1) [.int .i64 (1)] from rfl) (Reps.none _ _)))
      intro vp w34 hp hb hg_ hn_
      replace HT3:=mk0 (HT3.out.step hb)
      have HP:=mk0 hp
      clear hb hp hg_ hn_
      obtain⟨Ap,cp,e_⟩:=Kd.R_slice HP.out
      subst e_
      refine hK.out _ _ trivial (fun hHeld=>?_)
      clear hK K
      refine pN (some 42) ?_
      refine pO 2 (some 43) (bm 11 255) HT_ (fun K hK=>?_)
      refine Kd.R_append_rows_step (Kd.int .i64) (w0:=w12) w12.heap.size (by rfl) (.tmp 41) (.tmp 42) 23 3 (.int .i64 0) 8 rfl Try.underlying23 info3 rfl (by decide) (by omega) u8 x8 [1] _ _ _ (fun _=>True) (fun _=>False) rfl rfl HT3.out.two.r (Kd.R_reads' HP.out).2.2 (fun _ _ h=>h) (fun _ h=>h.elim) (fun _ _=>trivial) HT3.out.two.be HT3.out.two.be.size (by have:=LM1.out;omega) ?_
      intro v1 w36 ho hb hg hat
      replace HT3:=mk0 (HT3.out.app1 ho hb hg hat)
      clear ho hb hg hat
      refine hK.out _ _ trivial (fun hHeld=>?_)
      clear hK K
      refine pN (some 43) ?_
      exact norm_ (by simp only [putAll,Act.put,sA,sO,sS]) (hCont (.slice Ap ([1]:List Int).length cp,v1,vq) _ HT3)
    rintro⟨vp,v1,vq⟩ w38 HT3
    clear HT
    have hHeld:=trivial
    obtain⟨Aq,cq,e_⟩:=Kd.R_slice HT3.out.rq
    replace e_:vq = _:=e_
    subst e_
    refine norm_ (a':=?_) ?_ ?_
    rotate_left
    ·simp only [putAll,Act.put,sA,sO,sS]
     rfl
    refine pO 8 (some 49) (bm 11 511) HT_ (fun K hK=>?_)
    refine Kd.R_append_rows_step (Kd.int .i64) (w0:=w12) w12.heap.size (by rfl) (.tmp 44) (.tmp 48) 23 3 (.int .i64 0) 8 rfl Try.underlying23 info3 rfl (by decide) (by omega) u9 x9 [wrap64 (Int.tdiv (rd t413 x33) a1)] _ _ _ (fun _=>True) (fun _=>False) rfl rfl HT3.out.two.s (Kd.R_reads' HT3.out.rq).2.2 (fun _ _ h=>h) (fun _ h=>h.elim) (fun _ _=>trivial) HT3.out.two.be HT3.out.two.be.size (by have:=LM2.out;omega) ?_
    intro v2 w39 ho hb hg hat
    have HT:=mk0 (HT3.out.two.app2 rfl ho hb hg hat)
    clear ho hb hg hat
    refine hK.out _ _ trivial (fun hHeld=>?_)
    clear hK K
    refine pN (some 49) ?_
    refine pU 9 (some 8) (bm 11 1023) HT_ ?_
    refine pU 10 (some 9) (bm 11 2047) HT_ ?_
    refine pD HT_ ?_
    try go_wp2
    go_roundg k2
    case measure=>have:=HK2.out;omega
    case rel=>exact⟨_,_,(wrap64 (x33 + 1)),eS,H2,⟨by have:=HK2.out;omega⟩,HT⟩
   rw [if_neg c33] at H
   have c33b0:decide (x33 < (t413.length:Int)) = false:=decide_eq_false c33
   clear c33
   replace H:=bE H
   obtain⟨t450,A46,H⟩:=H
   have H2:=mk0 (show impl_fmOf.l1 k2 l0 a1 x8 x9 [] 0 t419 t450 (l0.length:Int) a1 t423 t424 t427 0 0 0 0 0 0 0 = some (r1,r2,r3,r4,r5,r6,r7,r8,r9,r10,r11,r12,r13,r14,r15,r16) from H)
   clear H HRO
   obtain⟨Am,cm,e_⟩:=Kd.R_slice HT.out.r
   subst e_
   obtain⟨As,cs,e_⟩:=Kd.R_slice HT.out.s
   subst e_
   replace HW:=mk0 (((HW.out.below HT.out.be).addR HT.out.r (by decide)).addR HT.out.s (by decide))
   clear HT
   go_wp2_with (first|((with_reducible refine gate_callee (f:=47) rfl ?_);refine gL (some 55) Try.func47 #[.slice Ar t413.length cr] ?_;(with_reducible refine (impl_inverse.calls k2 _ _ t413 t450 _ ?side1 ?side2 A46.out).mono ?_);(case side1=>exact kC (Kd.R_reads' HW.out.now.1.1.1.1.1.1.1.2).2.2);(case side2=>exact (Kd.R_reads' HW.out.now.1.1.1.1.1.1.1.2).2.1);rintro e w47 ⟨v47_,rfl,ho0,hb⟩;refine⟨_,rfl,?_⟩;obtain⟨Av,cv,e_⟩:=Kd.R_slice ho0;subst e_;replace HW:=mk0 ((HW.out.below hb).addR (Kd.R_lower ho0 HW.out.be.size) (by decide));clear hb ho0))
   have HRO:=mk0 (fun (W:World) (hb:Below w47.heap.size w47 W)=>(Kd.R_reads' (HW.out.below hb).now.2).2.2)
   go_loopg [10,14] k2 (fun kq v10 v14 w'=>∃ (x10:List Int) (x14:Int),v14 = .int .i64 x14 ∧ Aside0 (impl_fmOf.l1 kq l0 a1 x8 x9 x10 x14 t419 t450 (l0.length:Int) a1 t423 t424 t427 0 0 0 0 0 0 0 = some (r1,r2,r3,r4,r5,r6,r7,r8,r9,r10,r11,r12,r13,r14,r15,r16)) ∧ Aside0 (kq ≤ k2) ∧ Aside0 (Kd.R (Kd.int .i64) 3 w' w47.heap.size (fun _=>True) v10 x10) ∧ Aside0 (Below w47.heap.size w47 w'))
   case atStart=>exact⟨[],0,eS,H2,⟨Nat.le_refl _⟩,⟨Kd.R_nil _ _ _ _ _⟩,⟨Below.refl _ _⟩⟩
   case round =>
    clear H2
    obtain⟨x10,x14,rfl,HA,HK3,HI,HL⟩:=hrel
    cases gk with
    | zero=>exact absurd HA.out (by simp [impl_fmOf.l1])
    | succ k3 =>
     have H:=HA.out
     clear HA
     simp only [impl_fmOf.l1] at H
     by_cases c45:x14 ≤ (l0.length:Int)
     ·rw [if_pos c45] at H
      have c45b0:decide (x14 ≤ (l0.length:Int)) = true:=decide_eq_true c45
      clear c45
      by_cases c46:0 ≤ x14
      rotate_left
      ·rw [if_neg c46] at H
       exact nn H
      rw [if_pos c46] at H
      have c46b0:decide (0 ≤ x14) = true:=decide_eq_true c46
      by_cases c47:x14 < (t450.length:Int)
      rotate_left
      ·rw [if_neg c47] at H
       exact nn H
      rw [if_pos c47,Option.bind_some] at H
      have c47b0:decide (x14 < (t450.length:Int)) = true:=decide_eq_true c47
      by_cases c48:x10.length + ([rd t450 x14]:List Int).length < 17592186044416
      rotate_left
      ·rw [if_neg c48] at H
       exact nn H
      rw [if_pos c48] at H
      have LM3:=mk0 (show x10.length + 1 < 17592186044416 from c48)
      clear c48
      have H2:=mk0 H
      clear H
      obtain⟨ad,e_,hx_⟩:=Kd.at_int (HRO.out wr HL.out) x14 c46 c47
      cases e_
      clear c46 c47
      have p_:(0 ≤ x14) = True:=eq_true (oD)
      have q_:(x14 < (t450.length:Int)) = True:=eq_true (oD)
      go_wp2_with (first|((with_reducible refine gate_builtin (b:=.append) (xs:=#[.tmp 63,.tmp 68]) rfl ?_);at_builtin;refine Kd.R_append (Kd.int .i64) (w0:=w47) w47.heap.size rfl (.tmp 63) (.tmp 68) 23 3 (.int .i64 0) 8 rfl Try.underlying23 info3 rfl (by decide) (by omega) u10 x10 (rd t450 x14) [.int .i64 ((rd t450 x14))] (fun _=>True) (fun _=>False) rfl rfl (rfl) (fun _ hk=>hk.elim) (fun _ _=>trivial) HI.out HL.out HL.out.size (by have:=LM3.out;omega) ?_;intro vi w44 ho hb hg hat;replace HI:=mk0 ho;replace HL:=mk0 hb;clear ho hb hg hat))
      go_roundg k3
      case measure=>have:=HK3.out;omega
      case rel=>exact⟨_,(wrap64 (x14 + a1)),eS,H2,⟨by have:=HK3.out;omega⟩,HI,HL⟩
     rw [if_neg c45] at H
     have c45b0:decide (x14 ≤ (l0.length:Int)) = false:=decide_eq_false c45
     clear c45 HRO
     replace H:=bE H
     obtain⟨⟨t460,t461⟩,A51,H⟩:=H
     dsimp only at H
     replace H:=bE H
     obtain⟨t464,A52,H⟩:=H
     replace H:=bE H
     obtain⟨⟨t465,t466,t467,t468,t471⟩,A53,H⟩:=H
     dsimp only at H
     replace H:=bE H
     obtain⟨t472,A54,H⟩:=H
     replace H:=bE H
     obtain⟨⟨t473,t474,t475,t476,t479⟩,A55,H⟩:=H
     dsimp only at H
     simp only [Option.some.injEq,Prod.mk.injEq] at H
     obtain⟨rfl,rfl,rfl,rfl,rfl,rfl,rfl,rfl,rfl,rfl,rfl,rfl,rfl,rfl,rfl,rfl⟩:=H
     obtain⟨Ai,ci,e_⟩:=Kd.R_slice HI.out
     subst e_
     replace HW:=mk0 ((HW.out.below HL.out).addR HI.out (by decide))
     clear HI HL
     go_wp2_with (first
      |((with_reducible refine gate_callee (f:=48) rfl ?_);replace HW:=mk0 (HW.out.upS HW.out.now.1.1.1.1.2 (by decide));refine gL (some 71) Try.func48 #[.slice Am x8.length cm] ?_;(with_reducible refine (impl_bitsOf.calls k3 _ _ x8 t460 t461 _ ?side1 ?side2 A51.out).mono ?_);(case side1=>exact kC (Kd.R_reads' HW.out.now.1.1.1.1.2).2.2);(case side2=>exact (Kd.R_reads' HW.out.now.1.1.1.1.2).2.1);rintro e w50 ⟨v50_,rfl,ho0,hb⟩;refine⟨_,rfl,?_⟩;obtain⟨Aq,cq,e_⟩:=Kd.R_slice ho0;subst e_;replace HW:=mk0 ((HW.out.below hb).addR (Fm.lo ho0 HW.out.be.size) (by decide));clear hb ho0)
      |((with_reducible refine gate_store (t:=29) (p:=72) (v:=.tmp 71) rfl ?_);refine store_event (t:=29) (p:=72) (v:=.tmp 71) (w1:=(World.setCell (World.setCell w50 ⟨gb,6,none⟩ (.int .i64 t460)) ⟨gb,7,none⟩ (.slice Aq t461.length cq))) ?hg ?ho ?hn ?hr ?_;(case ho=>rfl);(case hg=>rfl);(case hn=>rfl);(case hr=>have c6_:_ = some (Value.int .i64 0):=(blk_cell HW.out.bb 6).trans rfl;have f6_:=blk_frozen HW.out.bb 6;have c7_:_ = some (Value.slice none 0 0):=(blk_cell HW.out.bb 7).trans rfl;have f7_:=blk_frozen HW.out.bb 7;first|(go_simp;done)|(go_simp;rfl));intro w51 hw;replace HW:=mk0 (HW.out.setb HN.out (W1:=w51) (c1:=#[.int .i64 (l0.length:Int),.int .i64 a1,.int .i64 t423,.slice Az t424.length cz,.slice Al t427.length cl,.slice Ac t419.length cc,.int .i64 t460,.slice Aq t461.length cq,.int .i64 0,.int .i64 0,.int .i64 0,.slice none 0 0,.int .i64 0,.int .i64 0,.int .i64 0,.slice none 0 0]) (by rw [hw];exact Fm.gg (Fm.gc _ gb 6 _) (Fm.gc _ gb 7 _)) (by rw [hw];exact (blk_put (cs':=#[.int .i64 (l0.length:Int),.int .i64 a1,.int .i64 t423,.slice Az t424.length cz,.slice Al t427.length cl,.slice Ac t419.length cc,.int .i64 t460,.slice Aq t461.length cq,.int .i64 0,.int .i64 0,.int .i64 0,.slice none 0 0,.int .i64 0,.int .i64 0,.int .i64 0,.slice none 0 0]) (blk_put (cs':=#[.int .i64 (l0.length:Int),.int .i64 a1,.int .i64 t423,.slice Az t424.length cz,.slice Al t427.length cl,.slice Ac t419.length cc,.int .i64 t460,.slice none 0 0,.int .i64 0,.int .i64 0,.int .i64 0,.slice none 0 0,.int .i64 0,.int .i64 0,.int .i64 0,.slice none 0 0]) HW.out.bb 6 _ rfl) 7 _ rfl)));clear hw)
      |((with_reducible refine gate_callee (f:=50) rfl ?_);refine gL (some 77) Try.func50 #[.int .i64 (l0.length:Int)] ?_;(with_reducible refine (impl_WidthOf.calls k3 _ t464 _ A52.out).mono ?_);rintro e w' ⟨rfl,⟨nd,rfl⟩⟩;refine⟨_,rfl,?_⟩;skip)
      |((with_reducible refine gate_callee (f:=49) rfl ?_);replace HW:=mk0 (HW.out.drew nd);replace HW:=mk0 (HW.out.upS HW.out.now.1.2 (by decide));replace HW:=mk0 (HW.out.up HW.out.now.1.2 (by decide));refine gL (some 78) Try.func49 #[.slice As x9.length cs,.int .i64 t464] ?_;(with_reducible refine (impl_PackOf.calls k3 _ _ x9 t464 t465 t466 t467 t468 t471 _ ?side1 ?side2 A53.out).mono ?_);(case side1=>exact kC (Kd.R_reads' HW.out.now.1.1.1.1.1.1.2).2.2);(case side2=>exact (Kd.R_reads' HW.out.now.1.1.1.1.1.1.2).2.1);rintro e w52 ⟨v_,rfl,ho0,hb⟩;refine⟨_,rfl,?_⟩;obtain⟨Ap,cp,e_⟩:=Kd.R_slice ho0;subst e_;replace HW:=mk0 ((HW.out.below hb).addR (Fm.lo ho0 HW.out.be.size) (by decide));clear hb ho0)
      |((with_reducible refine gate_store (t:=31) (p:=81) (v:=.tmp 79) rfl ?_);refine store_event (t:=31) (p:=81) (v:=.tmp 79) (w1:=(World.setCell (World.setCell (World.setCell (World.setCell w52 ⟨gb,8,none⟩ (.int .i64 t465)) ⟨gb,9,none⟩ (.int .i64 t466)) ⟨gb,10,none⟩ (.int .i64 t467)) ⟨gb,11,none⟩ (.slice Ap t468.length cp))) ?hg ?ho ?hn ?hr ?_;(case ho=>rfl);(case hg=>rfl);(case hn=>rfl);(case hr=>have c8_:_ = some (Value.int .i64 0):=(blk_cell HW.out.bb 8).trans rfl;have f8_:=blk_frozen HW.out.bb 8;have c9_:_ = some (Value.int .i64 0):=(blk_cell HW.out.bb 9).trans rfl;have f9_:=blk_frozen HW.out.bb 9;have c10_:_ = some (Value.int .i64 0):=(blk_cell HW.out.bb 10).trans rfl;have f10_:=blk_frozen HW.out.bb 10;have c11_:_ = some (Value.slice none 0 0):=(blk_cell HW.out.bb 11).trans rfl;have f11_:=blk_frozen HW.out.bb 11;first|(go_simp;done)|(go_simp;rfl));intro w53 hw;replace HW:=mk0 (HW.out.setb HN.out (W1:=w53) (c1:=#[.int .i64 (l0.length:Int),.int .i64 a1,.int .i64 t423,.slice Az t424.length cz,.slice Al t427.length cl,.slice Ac t419.length cc,.int .i64 t460,.slice Aq t461.length cq,.int .i64 t465,.int .i64 t466,.int .i64 t467,.slice Ap t468.length cp,.int .i64 0,.int .i64 0,.int .i64 0,.slice none 0 0]) (by rw [hw];exact Fm.gg (Fm.gg (Fm.gg (Fm.gc _ gb 8 _) (Fm.gc _ gb 9 _)) (Fm.gc _ gb 10 _)) (Fm.gc _ gb 11 _)) (by rw [hw];exact (blk_put (cs':=#[.int .i64 (l0.length:Int),.int .i64 a1,.int .i64 t423,.slice Az t424.length cz,.slice Al t427.length cl,.slice Ac t419.length cc,.int .i64 t460,.slice Aq t461.length cq,.int .i64 t465,.int .i64 t466,.int .i64 t467,.slice Ap t468.length cp,.int .i64 0,.int .i64 0,.int .i64 0,.slice none 0 0]) (blk_put (cs':=#[.int .i64 (l0.length:Int),.int .i64 a1,.int .i64 t423,.slice Az t424.length cz,.slice Al t427.length cl,.slice Ac t419.length cc,.int .i64 t460,.slice Aq t461.length cq,.int .i64 t465,.int .i64 t466,.int .i64 t467,.slice none 0 0,.int .i64 0,.int .i64 0,.int .i64 0,.slice none 0 0]) (blk_put (cs':=#[.int .i64 (l0.length:Int),.int .i64 a1,.int .i64 t423,.slice Az t424.length cz,.slice Al t427.length cl,.slice Ac t419.length cc,.int .i64 t460,.slice Aq t461.length cq,.int .i64 t465,.int .i64 t466,.int .i64 0,.slice none 0 0,.int .i64 0,.int .i64 0,.int .i64 0,.slice none 0 0]) (blk_put (cs':=#[.int .i64 (l0.length:Int),.int .i64 a1,.int .i64 t423,.slice Az t424.length cz,.slice Al t427.length cl,.slice Ac t419.length cc,.int .i64 t460,.slice Aq t461.length cq,.int .i64 t465,.int .i64 0,.int .i64 0,.slice none 0 0,.int .i64 0,.int .i64 0,.int .i64 0,.slice none 0 0]) HW.out.bb 8 _ rfl) 9 _ rfl) 10 _ rfl) 11 _ rfl)));clear hw)
      |((with_reducible refine gate_callee (f:=50) rfl ?_);refine gL (some 86) Try.func50 #[.int .i64 (l0.length:Int)] ?_;(with_reducible refine (impl_WidthOf.calls k3 _ t472 _ A54.out).mono ?_);rintro e w' ⟨rfl,⟨nd,rfl⟩⟩;refine⟨_,rfl,?_⟩;skip)
      |((with_reducible refine gate_callee (f:=49) rfl ?_);replace HW:=mk0 (HW.out.drew nd);replace HW:=mk0 (HW.out.upS HW.out.now.1.1.2 (by decide));replace HW:=mk0 (HW.out.up HW.out.now.1.1.2 (by decide));replace HW:=mk0 (HW.out.up HW.out.now.1.1.2 (by decide));refine gL (some 87) Try.func49 #[.slice Ai x10.length ci,.int .i64 t472] ?_;(with_reducible refine (impl_PackOf.calls k3 _ _ x10 t472 t473 t474 t475 t476 t479 _ ?side1 ?side2 A55.out).mono ?_);(case side1=>exact kC (Kd.R_reads' HW.out.now.1.1.1.1.1.1.1.1.2).2.2);(case side2=>exact (Kd.R_reads' HW.out.now.1.1.1.1.1.1.1.1.2).2.1);rintro e w54 ⟨v_,rfl,ho0,hb⟩;refine⟨_,rfl,?_⟩;obtain⟨Aw,cw,e_⟩:=Kd.R_slice ho0;subst e_;replace HW:=mk0 ((HW.out.below hb).addR (Fm.lo ho0 HW.out.be.size) (by decide));clear hb ho0)
      |((with_reducible refine gate_store (t:=31) (p:=90) (v:=.tmp 88) rfl ?_);refine store_event (t:=31) (p:=90) (v:=.tmp 88) (w1:=(World.setCell (World.setCell (World.setCell (World.setCell w54 ⟨gb,12,none⟩ (.int .i64 t473)) ⟨gb,13,none⟩ (.int .i64 t474)) ⟨gb,14,none⟩ (.int .i64 t475)) ⟨gb,15,none⟩ (.slice Aw t476.length cw))) ?hg ?ho ?hn ?hr ?_;(case ho=>rfl);(case hg=>rfl);(case hn=>rfl);(case hr=>have c12_:_ = some (Value.int .i64 0):=(blk_cell HW.out.bb 12).trans rfl;have f12_:=blk_frozen HW.out.bb 12;have c13_:_ = some (Value.int .i64 0):=(blk_cell HW.out.bb 13).trans rfl;have f13_:=blk_frozen HW.out.bb 13;have c14_:_ = some (Value.int .i64 0):=(blk_cell HW.out.bb 14).trans rfl;have f14_:=blk_frozen HW.out.bb 14;have c15_:_ = some (Value.slice none 0 0):=(blk_cell HW.out.bb 15).trans rfl;have f15_:=blk_frozen HW.out.bb 15;first|(go_simp;done)|(go_simp;rfl));intro w55 hw;replace HW:=mk0 (HW.out.setb HN.out (W1:=w55) (c1:=#[.int .i64 (l0.length:Int),.int .i64 a1,.int .i64 t423,.slice Az t424.length cz,.slice Al t427.length cl,.slice Ac t419.length cc,.int .i64 t460,.slice Aq t461.length cq,.int .i64 t465,.int .i64 t466,.int .i64 t467,.slice Ap t468.length cp,.int .i64 t473,.int .i64 t474,.int .i64 t475,.slice Aw t476.length cw]) (by rw [hw];exact Fm.gg (Fm.gg (Fm.gg (Fm.gc _ gb 12 _) (Fm.gc _ gb 13 _)) (Fm.gc _ gb 14 _)) (Fm.gc _ gb 15 _)) (by rw [hw];exact (blk_put (cs':=#[.int .i64 (l0.length:Int),.int .i64 a1,.int .i64 t423,.slice Az t424.length cz,.slice Al t427.length cl,.slice Ac t419.length cc,.int .i64 t460,.slice Aq t461.length cq,.int .i64 t465,.int .i64 t466,.int .i64 t467,.slice Ap t468.length cp,.int .i64 t473,.int .i64 t474,.int .i64 t475,.slice Aw t476.length cw]) (blk_put (cs':=#[.int .i64 (l0.length:Int),.int .i64 a1,.int .i64 t423,.slice Az t424.length cz,.slice Al t427.length cl,.slice Ac t419.length cc,.int .i64 t460,.slice Aq t461.length cq,.int .i64 t465,.int .i64 t466,.int .i64 t467,.slice Ap t468.length cp,.int .i64 t473,.int .i64 t474,.int .i64 t475,.slice none 0 0]) (blk_put (cs':=#[.int .i64 (l0.length:Int),.int .i64 a1,.int .i64 t423,.slice Az t424.length cz,.slice Al t427.length cl,.slice Ac t419.length cc,.int .i64 t460,.slice Aq t461.length cq,.int .i64 t465,.int .i64 t466,.int .i64 t467,.slice Ap t468.length cp,.int .i64 t473,.int .i64 t474,.int .i64 0,.slice none 0 0]) (blk_put (cs':=#[.int .i64 (l0.length:Int),.int .i64 a1,.int .i64 t423,.slice Az t424.length cz,.slice Al t427.length cl,.slice Ac t419.length cc,.int .i64 t460,.slice Aq t461.length cq,.int .i64 t465,.int .i64 t466,.int .i64 t467,.slice Ap t468.length cp,.int .i64 t473,.int .i64 0,.int .i64 0,.slice none 0 0]) HW.out.bb 12 _ rfl) 13 _ rfl) 14 _ rfl) 15 _ rfl)));clear hw;have z0_:_ = some (Value.int .i64 (l0.length:Int)):=(blk_cell HW.out.bb 0).trans rfl;have z1_:_ = some (Value.int .i64 a1):=(blk_cell HW.out.bb 1).trans rfl;have z2_:_ = some (Value.int .i64 t423):=(blk_cell HW.out.bb 2).trans rfl;have z3_:_ = some (Value.slice Az t424.length cz):=(blk_cell HW.out.bb 3).trans rfl;have z4_:_ = some (Value.slice Al t427.length cl):=(blk_cell HW.out.bb 4).trans rfl;have z5_:_ = some (Value.slice Ac t419.length cc):=(blk_cell HW.out.bb 5).trans rfl;have z6_:_ = some (Value.int .i64 t460):=(blk_cell HW.out.bb 6).trans rfl;have z7_:_ = some (Value.slice Aq t461.length cq):=(blk_cell HW.out.bb 7).trans rfl;have z8_:_ = some (Value.int .i64 t465):=(blk_cell HW.out.bb 8).trans rfl;have z9_:_ = some (Value.int .i64 t466):=(blk_cell HW.out.bb 9).trans rfl;have z10_:_ = some (Value.int .i64 t467):=(blk_cell HW.out.bb 10).trans rfl;have z11_:_ = some (Value.slice Ap t468.length cp):=(blk_cell HW.out.bb 11).trans rfl;have z12_:_ = some (Value.int .i64 t473):=(blk_cell HW.out.bb 12).trans rfl;have z13_:_ = some (Value.int .i64 t474):=(blk_cell HW.out.bb 13).trans rfl;have z14_:_ = some (Value.int .i64 t475):=(blk_cell HW.out.bb 14).trans rfl;have z15_:_ = some (Value.slice Aw t476.length cw):=(blk_cell HW.out.bb 15).trans rfl)
      |((with_reducible refine gate_store (t:=33) (p:=4) (v:=.tmp 91) rfl ?_);refine store_event (t:=33) (p:=4) (v:=.tmp 91) (w1:=(World.setCell (World.setCell (World.setCell (World.setCell (World.setCell (World.setCell (World.setCell (World.setCell (World.setCell (World.setCell (World.setCell (World.setCell (World.setCell (World.setCell (World.setCell (World.setCell w55 ⟨ga,0,none⟩ (.int .i64 (l0.length:Int))) ⟨ga,1,none⟩ (.int .i64 a1)) ⟨ga,2,none⟩ (.int .i64 t423)) ⟨ga,3,none⟩ (.slice Az t424.length cz)) ⟨ga,4,none⟩ (.slice Al t427.length cl)) ⟨ga,5,none⟩ (.slice Ac t419.length cc)) ⟨ga,6,none⟩ (.int .i64 t460)) ⟨ga,7,none⟩ (.slice Aq t461.length cq)) ⟨ga,8,none⟩ (.int .i64 t465)) ⟨ga,9,none⟩ (.int .i64 t466)) ⟨ga,10,none⟩ (.int .i64 t467)) ⟨ga,11,none⟩ (.slice Ap t468.length cp)) ⟨ga,12,none⟩ (.int .i64 t473)) ⟨ga,13,none⟩ (.int .i64 t474)) ⟨ga,14,none⟩ (.int .i64 t475)) ⟨ga,15,none⟩ (.slice Aw t476.length cw))) ?hg ?ho ?hn ?hr ?_;(case ho=>rfl);(case hg=>rfl);(case hn=>rfl);(case hr=>have c0_:_ = some (Value.int .i64 0):=(blk_cell HW.out.ba 0).trans rfl;have f0_:=blk_frozen HW.out.ba 0;have c1_:_ = some (Value.int .i64 0):=(blk_cell HW.out.ba 1).trans rfl;have f1_:=blk_frozen HW.out.ba 1;have c2_:_ = some (Value.int .i64 0):=(blk_cell HW.out.ba 2).trans rfl;have f2_:=blk_frozen HW.out.ba 2;have c3_:_ = some (Value.slice none 0 0):=(blk_cell HW.out.ba 3).trans rfl;have f3_:=blk_frozen HW.out.ba 3;have c4_:_ = some (Value.slice none 0 0):=(blk_cell HW.out.ba 4).trans rfl;have f4_:=blk_frozen HW.out.ba 4;have c5_:_ = some (Value.slice none 0 0):=(blk_cell HW.out.ba 5).trans rfl;have f5_:=blk_frozen HW.out.ba 5;have c6_:_ = some (Value.int .i64 0):=(blk_cell HW.out.ba 6).trans rfl;have f6_:=blk_frozen HW.out.ba 6;have c7_:_ = some (Value.slice none 0 0):=(blk_cell HW.out.ba 7).trans rfl;have f7_:=blk_frozen HW.out.ba 7;have c8_:_ = some (Value.int .i64 0):=(blk_cell HW.out.ba 8).trans rfl;have f8_:=blk_frozen HW.out.ba 8;have c9_:_ = some (Value.int .i64 0):=(blk_cell HW.out.ba 9).trans rfl;have f9_:=blk_frozen HW.out.ba 9;have c10_:_ = some (Value.int .i64 0):=(blk_cell HW.out.ba 10).trans rfl;have f10_:=blk_frozen HW.out.ba 10;have c11_:_ = some (Value.slice none 0 0):=(blk_cell HW.out.ba 11).trans rfl;have f11_:=blk_frozen HW.out.ba 11;have c12_:_ = some (Value.int .i64 0):=(blk_cell HW.out.ba 12).trans rfl;have f12_:=blk_frozen HW.out.ba 12;have c13_:_ = some (Value.int .i64 0):=(blk_cell HW.out.ba 13).trans rfl;have f13_:=blk_frozen HW.out.ba 13;have c14_:_ = some (Value.int .i64 0):=(blk_cell HW.out.ba 14).trans rfl;have f14_:=blk_frozen HW.out.ba 14;have c15_:_ = some (Value.slice none 0 0):=(blk_cell HW.out.ba 15).trans rfl;have f15_:=blk_frozen HW.out.ba 15;first|(go_simp;done)|(go_simp;rfl));intro w56 hw;replace HW:=mk0 (HW.out.seta HN.out (W1:=w56) (c1:=#[.int .i64 (l0.length:Int),.int .i64 a1,.int .i64 t423,.slice Az t424.length cz,.slice Al t427.length cl,.slice Ac t419.length cc,.int .i64 t460,.slice Aq t461.length cq,.int .i64 t465,.int .i64 t466,.int .i64 t467,.slice Ap t468.length cp,.int .i64 t473,.int .i64 t474,.int .i64 t475,.slice Aw t476.length cw]) (by rw [hw];exact Fm.gg (Fm.gg (Fm.gg (Fm.gg (Fm.gg (Fm.gg (Fm.gg (Fm.gg (Fm.gg (Fm.gg (Fm.gg (Fm.gg (Fm.gg (Fm.gg (Fm.gg (Fm.gc _ ga 0 _) (Fm.gc _ ga 1 _)) (Fm.gc _ ga 2 _)) (Fm.gc _ ga 3 _)) (Fm.gc _ ga 4 _)) (Fm.gc _ ga 5 _)) (Fm.gc _ ga 6 _)) (Fm.gc _ ga 7 _)) (Fm.gc _ ga 8 _)) (Fm.gc _ ga 9 _)) (Fm.gc _ ga 10 _)) (Fm.gc _ ga 11 _)) (Fm.gc _ ga 12 _)) (Fm.gc _ ga 13 _)) (Fm.gc _ ga 14 _)) (Fm.gc _ ga 15 _)) (by rw [hw];exact (blk_put (cs':=#[.int .i64 (l0.length:Int),.int .i64 a1,.int .i64 t423,.slice Az t424.length cz,.slice Al t427.length cl,.slice Ac t419.length cc,.int .i64 t460,.slice Aq t461.length cq,.int .i64 t465,.int .i64 t466,.int .i64 t467,.slice Ap t468.length cp,.int .i64 t473,.int .i64 t474,.int .i64 t475,.slice Aw t476.length cw]) (blk_put (cs':=#[.int .i64 (l0.length:Int),.int .i64 a1,.int .i64 t423,.slice Az t424.length cz,.slice Al t427.length cl,.slice Ac t419.length cc,.int .i64 t460,.slice Aq t461.length cq,.int .i64 t465,.int .i64 t466,.int .i64 t467,.slice Ap t468.length cp,.int .i64 t473,.int .i64 t474,.int .i64 t475,.slice none 0 0]) (blk_put (cs':=#[.int .i64 (l0.length:Int),.int .i64 a1,.int .i64 t423,.slice Az t424.length cz,.slice Al t427.length cl,.slice Ac t419.length cc,.int .i64 t460,.slice Aq t461.length cq,.int .i64 t465,.int .i64 t466,.int .i64 t467,.slice Ap t468.length cp,.int .i64 t473,.int .i64 t474,.int .i64 0,.slice none 0 0]) (blk_put (cs':=#[.int .i64 (l0.length:Int),.int .i64 a1,.int .i64 t423,.slice Az t424.length cz,.slice Al t427.length cl,.slice Ac t419.length cc,.int .i64 t460,.slice Aq t461.length cq,.int .i64 t465,.int .i64 t466,.int .i64 t467,.slice Ap t468.length cp,.int .i64 t473,.int .i64 0,.int .i64 0,.slice none 0 0]) (blk_put (cs':=#[.int .i64 (l0.length:Int),.int .i64 a1,.int .i64 t423,.slice Az t424.length cz,.slice Al t427.length cl,.slice Ac t419.length cc,.int .i64 t460,.slice Aq t461.length cq,.int .i64 t465,.int .i64 t466,.int .i64 t467,.slice Ap t468.length cp,.int .i64 0,.int .i64 0,.int .i64 0,.slice none 0 0]) (blk_put (cs':=#[.int .i64 (l0.length:Int),.int .i64 a1,.int .i64 t423,.slice Az t424.length cz,.slice Al t427.length cl,.slice Ac t419.length cc,.int .i64 t460,.slice Aq t461.length cq,.int .i64 t465,.int .i64 t466,.int .i64 t467,.slice none 0 0,.int .i64 0,.int .i64 0,.int .i64 0,.slice none 0 0]) (blk_put (cs':=#[.int .i64 (l0.length:Int),.int .i64 a1,.int .i64 t423,.slice Az t424.length cz,.slice Al t427.length cl,.slice Ac t419.length cc,.int .i64 t460,.slice Aq t461.length cq,.int .i64 t465,.int .i64 t466,.int .i64 0,.slice none 0 0,.int .i64 0,.int .i64 0,.int .i64 0,.slice none 0 0]) (blk_put (cs':=#[.int .i64 (l0.length:Int),.int .i64 a1,.int .i64 t423,.slice Az t424.length cz,.slice Al t427.length cl,.slice Ac t419.length cc,.int .i64 t460,.slice Aq t461.length cq,.int .i64 t465,.int .i64 0,.int .i64 0,.slice none 0 0,.int .i64 0,.int .i64 0,.int .i64 0,.slice none 0 0]) (blk_put (cs':=#[.int .i64 (l0.length:Int),.int .i64 a1,.int .i64 t423,.slice Az t424.length cz,.slice Al t427.length cl,.slice Ac t419.length cc,.int .i64 t460,.slice Aq t461.length cq,.int .i64 0,.int .i64 0,.int .i64 0,.slice none 0 0,.int .i64 0,.int .i64 0,.int .i64 0,.slice none 0 0]) (blk_put (cs':=#[.int .i64 (l0.length:Int),.int .i64 a1,.int .i64 t423,.slice Az t424.length cz,.slice Al t427.length cl,.slice Ac t419.length cc,.int .i64 t460,.slice none 0 0,.int .i64 0,.int .i64 0,.int .i64 0,.slice none 0 0,.int .i64 0,.int .i64 0,.int .i64 0,.slice none 0 0]) (blk_put (cs':=#[.int .i64 (l0.length:Int),.int .i64 a1,.int .i64 t423,.slice Az t424.length cz,.slice Al t427.length cl,.slice Ac t419.length cc,.int .i64 0,.slice none 0 0,.int .i64 0,.int .i64 0,.int .i64 0,.slice none 0 0,.int .i64 0,.int .i64 0,.int .i64 0,.slice none 0 0]) (blk_put (cs':=#[.int .i64 (l0.length:Int),.int .i64 a1,.int .i64 t423,.slice Az t424.length cz,.slice Al t427.length cl,.slice none 0 0,.int .i64 0,.slice none 0 0,.int .i64 0,.int .i64 0,.int .i64 0,.slice none 0 0,.int .i64 0,.int .i64 0,.int .i64 0,.slice none 0 0]) (blk_put (cs':=#[.int .i64 (l0.length:Int),.int .i64 a1,.int .i64 t423,.slice Az t424.length cz,.slice none 0 0,.slice none 0 0,.int .i64 0,.slice none 0 0,.int .i64 0,.int .i64 0,.int .i64 0,.slice none 0 0,.int .i64 0,.int .i64 0,.int .i64 0,.slice none 0 0]) (blk_put (cs':=#[.int .i64 (l0.length:Int),.int .i64 a1,.int .i64 t423,.slice none 0 0,.slice none 0 0,.slice none 0 0,.int .i64 0,.slice none 0 0,.int .i64 0,.int .i64 0,.int .i64 0,.slice none 0 0,.int .i64 0,.int .i64 0,.int .i64 0,.slice none 0 0]) (blk_put (cs':=#[.int .i64 (l0.length:Int),.int .i64 a1,.int .i64 0,.slice none 0 0,.slice none 0 0,.slice none 0 0,.int .i64 0,.slice none 0 0,.int .i64 0,.int .i64 0,.int .i64 0,.slice none 0 0,.int .i64 0,.int .i64 0,.int .i64 0,.slice none 0 0]) (blk_put (cs':=#[.int .i64 (l0.length:Int),.int .i64 0,.int .i64 0,.slice none 0 0,.slice none 0 0,.slice none 0 0,.int .i64 0,.slice none 0 0,.int .i64 0,.int .i64 0,.int .i64 0,.slice none 0 0,.int .i64 0,.int .i64 0,.int .i64 0,.slice none 0 0]) HW.out.ba 0 _ rfl) 1 _ rfl) 2 _ rfl) 3 _ rfl) 4 _ rfl) 5 _ rfl) 6 _ rfl) 7 _ rfl) 8 _ rfl) 9 _ rfl) 10 _ rfl) 11 _ rfl) 12 _ rfl) 13 _ rfl) 14 _ rfl) 15 _ rfl)));clear hw))
     refine bodyPost_ret (results_cell_row rfl _ _ ga 33 #[.int .i64 (l0.length:Int),.int .i64 a1,.int .i64 t423,.slice Az t424.length cz,.slice Al t427.length cl,.slice Ac t419.length cc,.int .i64 t460,.slice Aq t461.length cq,.int .i64 t465,.int .i64 t466,.int .i64 t467,.slice Ap t468.length cp,.int .i64 t473,.int .i64 t474,.int .i64 t475,.slice Aw t476.length cw] (0,0) _ rfl HW.out.ba Try.underlying33 rfl (by kernel_rfl)) rfl ?_
     exact⟨_,_,_,_,_,_,eR,Fm.M6.of HW.out.now.1.1.1.1.1.1.1.1.1.1.1.1.1.1.2 HW.out.now.1.1.1.2 HW.out.now.1.1.1.1.1.1.1.1.1.1.1.1.1.1.1.2 HW.out.now.1.1.2 HW.out.now.1.2 HW.out.now.2 (by decide),HW.out.be⟩

end Go.Proofs.Ytjfoaiabbmkdpaa.QFnExactFmOf
