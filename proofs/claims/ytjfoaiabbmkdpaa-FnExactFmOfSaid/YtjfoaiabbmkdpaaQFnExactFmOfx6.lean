-- A walk, made by walk.py, a program of this session's.
import Derived.Test.YtjfoaiabbmkdpaaFm
import Derived.Test.YtjfoaiabbmkdpaaQFnExactFmOfx0
import Derived.Test.YtjfoaiabbmkdpaaQFnExactFmOfx1
import Derived.Test.YtjfoaiabbmkdpaaQFnExactFmOfx2
import Derived.Test.YtjfoaiabbmkdpaaQFnExactFmOfx3
import Derived.Test.YtjfoaiabbmkdpaaQFnExactFmOfx4
import Derived.Test.YtjfoaiabbmkdpaaQFnExactFmOfx5
namespace Go.Proofs.Ytjfoaiabbmkdpaa.QFnExactFmOf
open Go.RowKit Go.Proofs.YtjfoaiabbmkdpaaW.PrintWords Go.Proofs.YtjfoaiabbmkdpaaW.PrintLast Go.Proofs.YtjfoaiabbmkdpaaW.PrintMore
attribute [local go_sem] max2_int min2_int max_two min_two max_three min_three max_four min_four   -- for this text's walks alone
set_option linter.unusedVariables false
set_option linter.unusedSimpArgs false
/-! ### spec_FmOf: function 4 -/
mutual
def spec_FmOf.j0 : Nat → List Int → Int → Bool → Option (Int × Int × Int × List Int × (List (S29)) × List Int × Int × List Int × Int × Int × Int × List Int × Int × Int × Int × List Int × Bool)
 | 0, _, _, _ => none
 | k + 1, x0, x1, x23 => if x23 = true then (some (0, 0, 0, ([] : List Int), ([] : List (S29)), ([] : List Int), 0, ([] : List Int), 0, 0, 0, ([] : List Int), 0, 0, 0, ([] : List Int), false)) else ((spec_SuffixRows.f k x0).bind fun t244 => ((spec_Inverse.f k t244).bind fun bt247 => ((spec_BwtOf.f k x0).bind fun t251 => ((spec_Counts.f k t251).bind fun t254 => ((spec_WaveOf.f k t251).bind fun bt258 => (spec_FmOf.l0 k x0 x1 (([] : List Int)) (([] : List Int)) 0 t244 bt247.1 t254 (x0.length : Int) x1 bt258.1 bt258.2.1 bt258.2.2.1 0 0 0 0 0 0 0))))))
def spec_FmOf.l0 : Nat → List Int → Int → List Int → List Int → Int → List Int → List Int → List Int → Int → Int → Int → List Int → List (S29) → Int → Int → Int → Int → Int → Int → Int → Option (Int × Int × Int × List Int × (List (S29)) × List Int × Int × List Int × Int × Int × Int × List Int × Int × Int × Int × List Int × Bool)
 | 0, _, _, _, _, _, _, _, _, _, _, _, _, _, _, _, _, _, _, _, _ => none
 | k + 1, x0, x1, x11, x12, x13, x26, x30, x38, x258000, x258001, x258002, x258003, x258004, x258006, x258008, x258009, x258010, x258012, x258013, x258014 => if x13 < (x26.length : Int) then (if 0 ≤ x13 then (if x1 = 0 then (none) else ((spec_l01Bool.f ((Int.tmod (rd x26 x13) x1) == 0)).bind fun t273 => (if x11.length < 17592186044416 then ((some (x11 ++ [t273] : List Int)).bind fun y274 => (if (Int.tmod (rd x26 x13) x1) = 0 then (if x12.length < 17592186044416 then (spec_FmOf.l0 k x0 x1 y274 (x12 ++ [wrap64 (Int.tdiv (rd x26 x13) x1)]) (wrap64 (x13 + 1)) x26 x30 x38 x258000 x258001 x258002 x258003 x258004 x258006 x258008 x258009 x258010 x258012 x258013 x258014) else (none)) else (spec_FmOf.l0 k x0 x1 y274 x12 (wrap64 (x13 + 1)) x26 x30 x38 x258000 x258001 x258002 x258003 x258004 x258006 x258008 x258009 x258010 x258012 x258013 x258014))) else (none)))) else (none)) else (spec_FmOf.l1 k x0 x1 x11 x12 (([] : List Int)) 0 x30 x38 x258000 x258001 x258002 x258003 x258004 x258006 x258008 x258009 x258010 x258012 x258013 x258014)
def spec_FmOf.l1 : Nat → List Int → Int → List Int → List Int → List Int → Int → List Int → List Int → Int → Int → Int → List Int → List (S29) → Int → Int → Int → Int → Int → Int → Int → Option (Int × Int × Int × List Int × (List (S29)) × List Int × Int × List Int × Int × Int × Int × List Int × Int × Int × Int × List Int × Bool)
 | 0, _, _, _, _, _, _, _, _, _, _, _, _, _, _, _, _, _, _, _, _ => none
 | k + 1, x0, x1, x11, x12, x14, x15, x30, x38, x258000, x258001, x258002, x258003, x258004, x258006, x258008, x258009, x258010, x258012, x258013, x258014 => if x15 ≤ (x0.length : Int) then (if 0 ≤ x15 then (if x15 < (x30.length : Int) then (if x14.length < 17592186044416 then (spec_FmOf.l1 k x0 x1 x11 x12 (x14 ++ [rd x30 x15]) (wrap64 (x15 + x1)) x30 x38 x258000 x258001 x258002 x258003 x258004 x258006 x258008 x258009 x258010 x258012 x258013 x258014) else (none)) else (none)) else (none)) else ((spec_BitsOf.f k x11).bind fun bt289 => ((spec_WidthOf.f k (x0.length : Int)).bind fun t294 => ((spec_PackOf.f k x12 t294).bind fun bt295 => ((spec_WidthOf.f k (x0.length : Int)).bind fun t302 => ((spec_PackOf.f k x14 t302).bind fun bt303 => (some (x258000, x258001, x258002, x258003, x258004, x38, bt289.1, bt289.2.1, bt295.1, bt295.2.1, bt295.2.2.1, bt295.2.2.2.1, bt303.1, bt303.2.1, bt303.2.2.1, bt303.2.2.2.1, true)))))))
end
def spec_FmOf.f (k : Nat) (l0 : List Int) (a1 : Int) : Option (Int × Int × Int × List Int × (List (S29)) × List Int × Int × List Int × Int × Int × Int × List Int × Int × Int × Int × List Int × Bool) := (spec_TextOk.f l0).bind fun t242 => (if t242 = true then ((spec_l09Rate.f a1).bind fun t243 => (spec_FmOf.j0 k l0 a1 (!t243))) else (spec_FmOf.j0 k l0 a1 true))
set_option maxHeartbeats 8000000 in
set_option maxRecDepth 100000 in
theorem spec_FmOf.calls (k : Nat) (A0 : Option Addr) (c0 : Nat) (l0 : List Int) (a1 : Int) (r1 r2 r3 : Int) (r4 : List Int) (r5 : List (S29)) (r6 : List Int) (r7 : Int) (r8 : List Int) (r9 r10 r11 : Int) (r12 : List Int) (r13 r14 r15 : Int) (r16 : List Int) (r17 : Bool) (w : World) (hr0 : Kd.C (Kd.int .u8) w A0 l0.length l0) (hc0 : l0.length ≤ c0) (h : spec_FmOf.f k l0 a1 = some (r1,r2,r3,r4,r5,r6,r7,r8,r9,r10,r11,r12,r13,r14,r15,r16,r17)) :
  Calls Try.prog 4 #[.slice A0 l0.length c0, .int .i64 a1] w fun e w' => ∃ v3_ v4_ v5_ v7_ v11_ v15_ : Value, e = .returned (.tuple #[.agg #[.int .i64 r1, .int .i64 r2, .int .i64 r3, v3_, v4_, v5_, .int .i64 r7, v7_, .int .i64 r9, .int .i64 r10, .int .i64 r11, v11_, .int .i64 r13, .int .i64 r14, .int .i64 r15, v15_], .bool r17]) ∧ Fm.R6 k29 29 w w' v3_ v4_ v5_ v7_ v11_ v15_ r4 r5 r6 r8 r12 r16 ∧ Below w.heap.size w w' := by
 have hu33:=Try.underlying33
 have hu26:=Try.underlying26
 have hu29:=Try.underlying29
 have hu31:=Try.underlying31
 have HR0:=mk0 hr0
 have HC0:=mk0 hc0
 clear hr0 hc0
 have H:((spec_TextOk.f l0).bind fun t242=>(if t242 = true then ((spec_l09Rate.f a1).bind fun t243=>(spec_FmOf.j0 k l0 a1 (!t243))) else (spec_FmOf.j0 k l0 a1 true))) = some (r1,r2,r3,r4,r5,r6,r7,r8,r9,r10,r11,r12,r13,r14,r15,r16,r17):=h
 clear h
 have HC3:=mk0 H
 clear H
 go_enter Try.func4,Try.ntmps4
 go_upto_region 1 with (first|((with_reducible refine gate_dst (N:=4) rfl ?_);refine box_event ?hg (N:=4) ?hd (cs:=#[.int .i64 0,.int .i64 0,.int .i64 0,.slice none 0 0,.slice none 0 0,.slice none 0 0,.int .i64 0,.slice none 0 0,.int .i64 0,.int .i64 0,.int .i64 0,.slice none 0 0,.int .i64 0,.int .i64 0,.int .i64 0,.slice none 0 0]) (t:=33) ?hr ?_;(case hd=>rfl);(case hg=>rfl);(case hr=>first|(go_simp;done)|(go_simp;rfl));intro ga hg w4 hbox hb;have HW:=mk0 (Fm.W2.start (below_then (Below.refl w.heap.size w) (Nat.le_refl _) hb) (by rw [hg];exact Nat.le_refl _) hbox);clear hb hbox hg))
 (try simp only [Act.put,sA,sO,sS])
 go_cut [23] (fun v23 wc=>∃ (x:Bool),v23 = .bool x ∧ Aside0 (spec_FmOf.j0 k l0 a1 x = some (r1,r2,r3,r4,r5,r6,r7,r8,r9,r10,r11,r12,r13,r14,r15,r16,r17)) ∧ Aside0 (Fm.W2 33 w wc ga ga #[.int .i64 0,.int .i64 0,.int .i64 0,.slice none 0 0,.slice none 0 0,.slice none 0 0,.int .i64 0,.slice none 0 0,.int .i64 0,.int .i64 0,.int .i64 0,.slice none 0 0,.int .i64 0,.int .i64 0,.int .i64 0,.slice none 0 0] #[.int .i64 0,.int .i64 0,.int .i64 0,.slice none 0 0,.slice none 0 0,.slice none 0 0,.int .i64 0,.slice none 0 0,.int .i64 0,.int .i64 0,.int .i64 0,.slice none 0 0,.int .i64 0,.int .i64 0,.int .i64 0,.slice none 0 0] (fun _=>True)))
 case first =>
  have H:=HC3.out
  clear HC3
  replace H:=bE H
  obtain⟨t242,A5,H⟩:=H
  by_cases c6:t242 = true
  rotate_left
  ·replace c6:=Bool.eq_false_iff.mpr c6
   subst c6
   replace H:=iF H
   have H':=mk0 H
   clear H
   go_wp2_with (first|((with_reducible refine gate_callee (f:=12) rfl ?_);refine gL (some 17) Try.func12 #[.slice A0 l0.length c0] ?_;(with_reducible refine (spec_TextOk.calls _ _ l0 false _ ?side1 ?side2 A5.out).mono ?_);(case side1=>exact kC (Kd.C_below HR0.out HW.out.be));(case side2=>exact HC0.out);rintro e w' ⟨rfl,⟨nd,rfl⟩⟩;refine⟨_,rfl,?_⟩;skip))
   go_meet
   case rel=>exact⟨true,eS,H',⟨HW.out.drew _⟩⟩
  subst c6
  replace H:=iT H
  replace H:=bE H
  obtain⟨t243,A7,H⟩:=H
  have H':=mk0 H
  clear H
  go_wp2_with (first|((with_reducible refine gate_callee (f:=12) rfl ?_);refine gL (some 17) Try.func12 #[.slice A0 l0.length c0] ?_;(with_reducible refine (spec_TextOk.calls _ _ l0 true _ ?side1 ?side2 A5.out).mono ?_);(case side1=>exact kC (Kd.C_below HR0.out HW.out.be));(case side2=>exact HC0.out);rintro e w' ⟨rfl,⟨nd,rfl⟩⟩;refine⟨_,rfl,?_⟩;skip)|(go_at_call 13;(with_reducible refine (spec_l09Rate.calls a1 t243 _ A7.out).mono ?_);rintro e w' ⟨rfl,⟨ne,rfl⟩⟩))
  go_meet
  case rel=>exact⟨(!t243),eS,H',⟨HW.out.drew _⟩⟩
 case rest =>
  clear HC3 HW
  obtain⟨x,rfl,HA,HW⟩:=hcut
  cases k with
  | zero=>exact absurd HA.out (by simp [spec_FmOf.j0])
  | succ k =>
   have H:=HA.out
   clear HA
   simp only [spec_FmOf.j0] at H
   by_cases c8:x = true
   ·subst c8
    replace H:=iT H
    simp only [Option.some.injEq,Prod.mk.injEq] at H
    obtain⟨rfl,rfl,rfl,rfl,rfl,rfl,rfl,rfl,rfl,rfl,rfl,rfl,rfl,rfl,rfl,rfl,rfl⟩:=H
    go_wp2_with (first|((with_reducible refine gate_store (t:=33) (p:=4) (v:=.tmp 24) rfl ?_);refine store_event (t:=33) (p:=4) (v:=.tmp 24) (w1:=(World.setCell (World.setCell (World.setCell (World.setCell (World.setCell (World.setCell (World.setCell (World.setCell (World.setCell (World.setCell (World.setCell (World.setCell (World.setCell (World.setCell (World.setCell (World.setCell wc ⟨ga,0,none⟩ (.int .i64 0)) ⟨ga,1,none⟩ (.int .i64 0)) ⟨ga,2,none⟩ (.int .i64 0)) ⟨ga,3,none⟩ (.slice none 0 0)) ⟨ga,4,none⟩ (.slice none 0 0)) ⟨ga,5,none⟩ (.slice none 0 0)) ⟨ga,6,none⟩ (.int .i64 0)) ⟨ga,7,none⟩ (.slice none 0 0)) ⟨ga,8,none⟩ (.int .i64 0)) ⟨ga,9,none⟩ (.int .i64 0)) ⟨ga,10,none⟩ (.int .i64 0)) ⟨ga,11,none⟩ (.slice none 0 0)) ⟨ga,12,none⟩ (.int .i64 0)) ⟨ga,13,none⟩ (.int .i64 0)) ⟨ga,14,none⟩ (.int .i64 0)) ⟨ga,15,none⟩ (.slice none 0 0))) ?hg ?ho ?hn ?hr ?_;(case ho=>rfl);(case hg=>rfl);(case hn=>rfl);(case hr=>have c0_:_ = some (Value.int .i64 0):=(blk_cell HW.out.ba 0).trans rfl;have f0_:=blk_frozen HW.out.ba 0;have c1_:_ = some (Value.int .i64 0):=(blk_cell HW.out.ba 1).trans rfl;have f1_:=blk_frozen HW.out.ba 1;have c2_:_ = some (Value.int .i64 0):=(blk_cell HW.out.ba 2).trans rfl;have f2_:=blk_frozen HW.out.ba 2;have c3_:_ = some (Value.slice none 0 0):=(blk_cell HW.out.ba 3).trans rfl;have f3_:=blk_frozen HW.out.ba 3;have c4_:_ = some (Value.slice none 0 0):=(blk_cell HW.out.ba 4).trans rfl;have f4_:=blk_frozen HW.out.ba 4;have c5_:_ = some (Value.slice none 0 0):=(blk_cell HW.out.ba 5).trans rfl;have f5_:=blk_frozen HW.out.ba 5;have c6_:_ = some (Value.int .i64 0):=(blk_cell HW.out.ba 6).trans rfl;have f6_:=blk_frozen HW.out.ba 6;have c7_:_ = some (Value.slice none 0 0):=(blk_cell HW.out.ba 7).trans rfl;have f7_:=blk_frozen HW.out.ba 7;have c8_:_ = some (Value.int .i64 0):=(blk_cell HW.out.ba 8).trans rfl;have f8_:=blk_frozen HW.out.ba 8;have c9_:_ = some (Value.int .i64 0):=(blk_cell HW.out.ba 9).trans rfl;have f9_:=blk_frozen HW.out.ba 9;have c10_:_ = some (Value.int .i64 0):=(blk_cell HW.out.ba 10).trans rfl;have f10_:=blk_frozen HW.out.ba 10;have c11_:_ = some (Value.slice none 0 0):=(blk_cell HW.out.ba 11).trans rfl;have f11_:=blk_frozen HW.out.ba 11;have c12_:_ = some (Value.int .i64 0):=(blk_cell HW.out.ba 12).trans rfl;have f12_:=blk_frozen HW.out.ba 12;have c13_:_ = some (Value.int .i64 0):=(blk_cell HW.out.ba 13).trans rfl;have f13_:=blk_frozen HW.out.ba 13;have c14_:_ = some (Value.int .i64 0):=(blk_cell HW.out.ba 14).trans rfl;have f14_:=blk_frozen HW.out.ba 14;have c15_:_ = some (Value.slice none 0 0):=(blk_cell HW.out.ba 15).trans rfl;have f15_:=blk_frozen HW.out.ba 15;first|(go_simp;done)|(go_simp;rfl));intro w9 hw;replace HW:=mk0 (HW.out.set1 (W1:=w9) (c1:=#[.int .i64 0,.int .i64 0,.int .i64 0,.slice none 0 0,.slice none 0 0,.slice none 0 0,.int .i64 0,.slice none 0 0,.int .i64 0,.int .i64 0,.int .i64 0,.slice none 0 0,.int .i64 0,.int .i64 0,.int .i64 0,.slice none 0 0]) (by rw [hw];exact Fm.gg (Fm.gg (Fm.gg (Fm.gg (Fm.gg (Fm.gg (Fm.gg (Fm.gg (Fm.gg (Fm.gg (Fm.gg (Fm.gg (Fm.gg (Fm.gg (Fm.gg (Fm.gc _ ga 0 _) (Fm.gc _ ga 1 _)) (Fm.gc _ ga 2 _)) (Fm.gc _ ga 3 _)) (Fm.gc _ ga 4 _)) (Fm.gc _ ga 5 _)) (Fm.gc _ ga 6 _)) (Fm.gc _ ga 7 _)) (Fm.gc _ ga 8 _)) (Fm.gc _ ga 9 _)) (Fm.gc _ ga 10 _)) (Fm.gc _ ga 11 _)) (Fm.gc _ ga 12 _)) (Fm.gc _ ga 13 _)) (Fm.gc _ ga 14 _)) (Fm.gc _ ga 15 _)) (by rw [hw];exact (blk_put (cs':=#[.int .i64 0,.int .i64 0,.int .i64 0,.slice none 0 0,.slice none 0 0,.slice none 0 0,.int .i64 0,.slice none 0 0,.int .i64 0,.int .i64 0,.int .i64 0,.slice none 0 0,.int .i64 0,.int .i64 0,.int .i64 0,.slice none 0 0]) (blk_put (cs':=#[.int .i64 0,.int .i64 0,.int .i64 0,.slice none 0 0,.slice none 0 0,.slice none 0 0,.int .i64 0,.slice none 0 0,.int .i64 0,.int .i64 0,.int .i64 0,.slice none 0 0,.int .i64 0,.int .i64 0,.int .i64 0,.slice none 0 0]) (blk_put (cs':=#[.int .i64 0,.int .i64 0,.int .i64 0,.slice none 0 0,.slice none 0 0,.slice none 0 0,.int .i64 0,.slice none 0 0,.int .i64 0,.int .i64 0,.int .i64 0,.slice none 0 0,.int .i64 0,.int .i64 0,.int .i64 0,.slice none 0 0]) (blk_put (cs':=#[.int .i64 0,.int .i64 0,.int .i64 0,.slice none 0 0,.slice none 0 0,.slice none 0 0,.int .i64 0,.slice none 0 0,.int .i64 0,.int .i64 0,.int .i64 0,.slice none 0 0,.int .i64 0,.int .i64 0,.int .i64 0,.slice none 0 0]) (blk_put (cs':=#[.int .i64 0,.int .i64 0,.int .i64 0,.slice none 0 0,.slice none 0 0,.slice none 0 0,.int .i64 0,.slice none 0 0,.int .i64 0,.int .i64 0,.int .i64 0,.slice none 0 0,.int .i64 0,.int .i64 0,.int .i64 0,.slice none 0 0]) (blk_put (cs':=#[.int .i64 0,.int .i64 0,.int .i64 0,.slice none 0 0,.slice none 0 0,.slice none 0 0,.int .i64 0,.slice none 0 0,.int .i64 0,.int .i64 0,.int .i64 0,.slice none 0 0,.int .i64 0,.int .i64 0,.int .i64 0,.slice none 0 0]) (blk_put (cs':=#[.int .i64 0,.int .i64 0,.int .i64 0,.slice none 0 0,.slice none 0 0,.slice none 0 0,.int .i64 0,.slice none 0 0,.int .i64 0,.int .i64 0,.int .i64 0,.slice none 0 0,.int .i64 0,.int .i64 0,.int .i64 0,.slice none 0 0]) (blk_put (cs':=#[.int .i64 0,.int .i64 0,.int .i64 0,.slice none 0 0,.slice none 0 0,.slice none 0 0,.int .i64 0,.slice none 0 0,.int .i64 0,.int .i64 0,.int .i64 0,.slice none 0 0,.int .i64 0,.int .i64 0,.int .i64 0,.slice none 0 0]) (blk_put (cs':=#[.int .i64 0,.int .i64 0,.int .i64 0,.slice none 0 0,.slice none 0 0,.slice none 0 0,.int .i64 0,.slice none 0 0,.int .i64 0,.int .i64 0,.int .i64 0,.slice none 0 0,.int .i64 0,.int .i64 0,.int .i64 0,.slice none 0 0]) (blk_put (cs':=#[.int .i64 0,.int .i64 0,.int .i64 0,.slice none 0 0,.slice none 0 0,.slice none 0 0,.int .i64 0,.slice none 0 0,.int .i64 0,.int .i64 0,.int .i64 0,.slice none 0 0,.int .i64 0,.int .i64 0,.int .i64 0,.slice none 0 0]) (blk_put (cs':=#[.int .i64 0,.int .i64 0,.int .i64 0,.slice none 0 0,.slice none 0 0,.slice none 0 0,.int .i64 0,.slice none 0 0,.int .i64 0,.int .i64 0,.int .i64 0,.slice none 0 0,.int .i64 0,.int .i64 0,.int .i64 0,.slice none 0 0]) (blk_put (cs':=#[.int .i64 0,.int .i64 0,.int .i64 0,.slice none 0 0,.slice none 0 0,.slice none 0 0,.int .i64 0,.slice none 0 0,.int .i64 0,.int .i64 0,.int .i64 0,.slice none 0 0,.int .i64 0,.int .i64 0,.int .i64 0,.slice none 0 0]) (blk_put (cs':=#[.int .i64 0,.int .i64 0,.int .i64 0,.slice none 0 0,.slice none 0 0,.slice none 0 0,.int .i64 0,.slice none 0 0,.int .i64 0,.int .i64 0,.int .i64 0,.slice none 0 0,.int .i64 0,.int .i64 0,.int .i64 0,.slice none 0 0]) (blk_put (cs':=#[.int .i64 0,.int .i64 0,.int .i64 0,.slice none 0 0,.slice none 0 0,.slice none 0 0,.int .i64 0,.slice none 0 0,.int .i64 0,.int .i64 0,.int .i64 0,.slice none 0 0,.int .i64 0,.int .i64 0,.int .i64 0,.slice none 0 0]) (blk_put (cs':=#[.int .i64 0,.int .i64 0,.int .i64 0,.slice none 0 0,.slice none 0 0,.slice none 0 0,.int .i64 0,.slice none 0 0,.int .i64 0,.int .i64 0,.int .i64 0,.slice none 0 0,.int .i64 0,.int .i64 0,.int .i64 0,.slice none 0 0]) (blk_put (cs':=#[.int .i64 0,.int .i64 0,.int .i64 0,.slice none 0 0,.slice none 0 0,.slice none 0 0,.int .i64 0,.slice none 0 0,.int .i64 0,.int .i64 0,.int .i64 0,.slice none 0 0,.int .i64 0,.int .i64 0,.int .i64 0,.slice none 0 0]) HW.out.ba 0 _ rfl) 1 _ rfl) 2 _ rfl) 3 _ rfl) 4 _ rfl) 5 _ rfl) 6 _ rfl) 7 _ rfl) 8 _ rfl) 9 _ rfl) 10 _ rfl) 11 _ rfl) 12 _ rfl) 13 _ rfl) 14 _ rfl) 15 _ rfl)));clear hw))
    refine bodyPost_ret (results_ct rfl _ _ ga 33 #[.int .i64 0,.int .i64 0,.int .i64 0,.slice none 0 0,.slice none 0 0,.slice none 0 0,.int .i64 0,.slice none 0 0,.int .i64 0,.int .i64 0,.int .i64 0,.slice none 0 0,.int .i64 0,.int .i64 0,.int .i64 0,.slice none 0 0] (0,0) _ rfl HW.out.ba Try.underlying33 rfl (by kernel_rfl)) rfl ?_
    exact⟨_,_,_,_,_,_,eR,Fm.R6.nil _ _ _ _,HW.out.be⟩
   replace c8:=Bool.eq_false_iff.mpr c8
   subst c8
   replace H:=iF H
   replace H:=bE H
   obtain⟨t244,A10,H⟩:=H
   replace H:=bE H
   obtain⟨⟨t247,t248⟩,A11,H⟩:=H
   dsimp only at H
   replace H:=bE H
   obtain⟨t251,A12,H⟩:=H
   replace H:=bE H
   obtain⟨t254,A13,H⟩:=H
   replace H:=bE H
   obtain⟨⟨t258,t259,t262,t265⟩,A14,H⟩:=H
   dsimp only at H
   have H':=mk0 H
   clear H
   go_wp2_with (first
    |((with_reducible refine gate_callee (f:=14) rfl ?_);refine gL (some 26) Try.func14 #[.slice A0 l0.length c0] ?_;(with_reducible refine (spec_SuffixRows.calls k _ _ l0 t244 _ ?side1 ?side2 A10.out).mono ?_);(case side1=>exact kC (Kd.C_below HR0.out HW.out.be));(case side2=>exact HC0.out);rintro e w5 ⟨v5_,rfl,ho0,hb⟩;refine⟨_,rfl,?_⟩;obtain⟨Ar,cr,e_⟩:=Kd.R_slice ho0;subst e_;replace HW:=mk0 ((HW.out.below hb).addR (Kd.R_lower ho0 HW.out.be.size) (by decide));clear hb ho0)
    |((with_reducible refine gate_callee (f:=15) rfl ?_);refine gL (some 29) Try.func15 #[.slice Ar t244.length cr] ?_;(with_reducible refine (spec_Inverse.calls k _ _ t244 t247 t248 _ ?side1 ?side2 A11.out).mono ?_);(case side1=>exact kC (Kd.R_reads' HW.out.now.2).2.2);(case side2=>exact (Kd.R_reads' HW.out.now.2).2.1);rintro e w6 ⟨v6_,rfl,ho0,hb⟩;refine⟨_,rfl,?_⟩;obtain⟨Av,cv,e_⟩:=Kd.R_slice ho0;subst e_;replace HW:=mk0 ((HW.out.below hb).addR (Kd.R_lower ho0 HW.out.be.size) (by decide));clear hb ho0)
    |((with_reducible refine gate_callee (f:=16) rfl ?_);refine gL (some 33) Try.func16 #[.slice A0 l0.length c0] ?_;(with_reducible refine (spec_BwtOf.calls k _ _ l0 t251 _ ?side1 ?side2 A12.out).mono ?_);(case side1=>exact kC (Kd.C_below HR0.out HW.out.be));(case side2=>exact HC0.out);rintro e w7 ⟨v7_,rfl,ho0,hb⟩;refine⟨_,rfl,?_⟩;obtain⟨Ab,cb,e_⟩:=Kd.R_slice ho0;subst e_;replace HW:=mk0 ((HW.out.below hb).addR (Kd.R_lower ho0 HW.out.be.size) (by decide));clear hb ho0)
    |((with_reducible refine gate_callee (f:=17) rfl ?_);refine gL (some 38) Try.func17 #[.slice Ab t251.length cb] ?_;(with_reducible refine (spec_Counts.calls k _ _ t251 t254 _ ?side1 ?side2 A13.out).mono ?_);(case side1=>exact kC (Kd.R_reads' HW.out.now.2).2.2);(case side2=>exact (Kd.R_reads' HW.out.now.2).2.1);rintro e w8 ⟨v8_,rfl,ho0,hb⟩;refine⟨_,rfl,?_⟩;obtain⟨Ac,cc,e_⟩:=Kd.R_slice ho0;subst e_;replace HW:=mk0 ((HW.out.below hb).addR (Kd.R_lower ho0 HW.out.be.size) (by decide));clear hb ho0)
    |((with_reducible refine gate_dst (N:=10) rfl ?_);refine box_event ?hg (N:=10) ?hd (cs:=#[.int .i64 0,.int .i64 0,.int .i64 0,.slice none 0 0,.slice none 0 0,.slice none 0 0,.int .i64 0,.slice none 0 0,.int .i64 0,.int .i64 0,.int .i64 0,.slice none 0 0,.int .i64 0,.int .i64 0,.int .i64 0,.slice none 0 0]) (t:=33) ?hr ?_;(case hd=>rfl);(case hg=>rfl);(case hr=>first|(go_simp;done)|(go_simp;rfl));intro gb hg w9 hbox hb;obtain⟨HW_,HN_⟩:=HW.out.box hg hbox hb;clear HW;have HW:=mk0 HW_;have HN:=mk0 HN_;clear hg hbox hb HW_ HN_)
    |((with_reducible refine gate_store (t:=33) (p:=10) (v:=.tmp 39) rfl ?_);refine store_event (t:=33) (p:=10) (v:=.tmp 39) (w1:=(World.setCell (World.setCell (World.setCell (World.setCell (World.setCell (World.setCell (World.setCell (World.setCell (World.setCell (World.setCell (World.setCell (World.setCell (World.setCell (World.setCell (World.setCell (World.setCell w9 ⟨gb,0,none⟩ (.int .i64 (l0.length:Int))) ⟨gb,1,none⟩ (.int .i64 a1)) ⟨gb,2,none⟩ (.int .i64 0)) ⟨gb,3,none⟩ (.slice none 0 0)) ⟨gb,4,none⟩ (.slice none 0 0)) ⟨gb,5,none⟩ (.slice Ac t254.length cc)) ⟨gb,6,none⟩ (.int .i64 0)) ⟨gb,7,none⟩ (.slice none 0 0)) ⟨gb,8,none⟩ (.int .i64 0)) ⟨gb,9,none⟩ (.int .i64 0)) ⟨gb,10,none⟩ (.int .i64 0)) ⟨gb,11,none⟩ (.slice none 0 0)) ⟨gb,12,none⟩ (.int .i64 0)) ⟨gb,13,none⟩ (.int .i64 0)) ⟨gb,14,none⟩ (.int .i64 0)) ⟨gb,15,none⟩ (.slice none 0 0))) ?hg ?ho ?hn ?hr ?_;(case ho=>rfl);(case hg=>rfl);(case hn=>rfl);(case hr=>have c0_:_ = some (Value.int .i64 0):=(blk_cell HW.out.bb 0).trans rfl;have f0_:=blk_frozen HW.out.bb 0;have c1_:_ = some (Value.int .i64 0):=(blk_cell HW.out.bb 1).trans rfl;have f1_:=blk_frozen HW.out.bb 1;have c2_:_ = some (Value.int .i64 0):=(blk_cell HW.out.bb 2).trans rfl;have f2_:=blk_frozen HW.out.bb 2;have c3_:_ = some (Value.slice none 0 0):=(blk_cell HW.out.bb 3).trans rfl;have f3_:=blk_frozen HW.out.bb 3;have c4_:_ = some (Value.slice none 0 0):=(blk_cell HW.out.bb 4).trans rfl;have f4_:=blk_frozen HW.out.bb 4;have c5_:_ = some (Value.slice none 0 0):=(blk_cell HW.out.bb 5).trans rfl;have f5_:=blk_frozen HW.out.bb 5;have c6_:_ = some (Value.int .i64 0):=(blk_cell HW.out.bb 6).trans rfl;have f6_:=blk_frozen HW.out.bb 6;have c7_:_ = some (Value.slice none 0 0):=(blk_cell HW.out.bb 7).trans rfl;have f7_:=blk_frozen HW.out.bb 7;have c8_:_ = some (Value.int .i64 0):=(blk_cell HW.out.bb 8).trans rfl;have f8_:=blk_frozen HW.out.bb 8;have c9_:_ = some (Value.int .i64 0):=(blk_cell HW.out.bb 9).trans rfl;have f9_:=blk_frozen HW.out.bb 9;have c10_:_ = some (Value.int .i64 0):=(blk_cell HW.out.bb 10).trans rfl;have f10_:=blk_frozen HW.out.bb 10;have c11_:_ = some (Value.slice none 0 0):=(blk_cell HW.out.bb 11).trans rfl;have f11_:=blk_frozen HW.out.bb 11;have c12_:_ = some (Value.int .i64 0):=(blk_cell HW.out.bb 12).trans rfl;have f12_:=blk_frozen HW.out.bb 12;have c13_:_ = some (Value.int .i64 0):=(blk_cell HW.out.bb 13).trans rfl;have f13_:=blk_frozen HW.out.bb 13;have c14_:_ = some (Value.int .i64 0):=(blk_cell HW.out.bb 14).trans rfl;have f14_:=blk_frozen HW.out.bb 14;have c15_:_ = some (Value.slice none 0 0):=(blk_cell HW.out.bb 15).trans rfl;have f15_:=blk_frozen HW.out.bb 15;first|(go_simp;done)|(go_simp;rfl));intro w10 hw;replace HW:=mk0 (HW.out.setb HN.out (W1:=w10) (c1:=#[.int .i64 (l0.length:Int),.int .i64 a1,.int .i64 0,.slice none 0 0,.slice none 0 0,.slice Ac t254.length cc,.int .i64 0,.slice none 0 0,.int .i64 0,.int .i64 0,.int .i64 0,.slice none 0 0,.int .i64 0,.int .i64 0,.int .i64 0,.slice none 0 0]) (by rw [hw];exact Fm.gg (Fm.gg (Fm.gg (Fm.gg (Fm.gg (Fm.gg (Fm.gg (Fm.gg (Fm.gg (Fm.gg (Fm.gg (Fm.gg (Fm.gg (Fm.gg (Fm.gg (Fm.gc _ gb 0 _) (Fm.gc _ gb 1 _)) (Fm.gc _ gb 2 _)) (Fm.gc _ gb 3 _)) (Fm.gc _ gb 4 _)) (Fm.gc _ gb 5 _)) (Fm.gc _ gb 6 _)) (Fm.gc _ gb 7 _)) (Fm.gc _ gb 8 _)) (Fm.gc _ gb 9 _)) (Fm.gc _ gb 10 _)) (Fm.gc _ gb 11 _)) (Fm.gc _ gb 12 _)) (Fm.gc _ gb 13 _)) (Fm.gc _ gb 14 _)) (Fm.gc _ gb 15 _)) (by rw [hw];exact (blk_put (cs':=#[.int .i64 (l0.length:Int),.int .i64 a1,.int .i64 0,.slice none 0 0,.slice none 0 0,.slice Ac t254.length cc,.int .i64 0,.slice none 0 0,.int .i64 0,.int .i64 0,.int .i64 0,.slice none 0 0,.int .i64 0,.int .i64 0,.int .i64 0,.slice none 0 0]) (blk_put (cs':=#[.int .i64 (l0.length:Int),.int .i64 a1,.int .i64 0,.slice none 0 0,.slice none 0 0,.slice Ac t254.length cc,.int .i64 0,.slice none 0 0,.int .i64 0,.int .i64 0,.int .i64 0,.slice none 0 0,.int .i64 0,.int .i64 0,.int .i64 0,.slice none 0 0]) (blk_put (cs':=#[.int .i64 (l0.length:Int),.int .i64 a1,.int .i64 0,.slice none 0 0,.slice none 0 0,.slice Ac t254.length cc,.int .i64 0,.slice none 0 0,.int .i64 0,.int .i64 0,.int .i64 0,.slice none 0 0,.int .i64 0,.int .i64 0,.int .i64 0,.slice none 0 0]) (blk_put (cs':=#[.int .i64 (l0.length:Int),.int .i64 a1,.int .i64 0,.slice none 0 0,.slice none 0 0,.slice Ac t254.length cc,.int .i64 0,.slice none 0 0,.int .i64 0,.int .i64 0,.int .i64 0,.slice none 0 0,.int .i64 0,.int .i64 0,.int .i64 0,.slice none 0 0]) (blk_put (cs':=#[.int .i64 (l0.length:Int),.int .i64 a1,.int .i64 0,.slice none 0 0,.slice none 0 0,.slice Ac t254.length cc,.int .i64 0,.slice none 0 0,.int .i64 0,.int .i64 0,.int .i64 0,.slice none 0 0,.int .i64 0,.int .i64 0,.int .i64 0,.slice none 0 0]) (blk_put (cs':=#[.int .i64 (l0.length:Int),.int .i64 a1,.int .i64 0,.slice none 0 0,.slice none 0 0,.slice Ac t254.length cc,.int .i64 0,.slice none 0 0,.int .i64 0,.int .i64 0,.int .i64 0,.slice none 0 0,.int .i64 0,.int .i64 0,.int .i64 0,.slice none 0 0]) (blk_put (cs':=#[.int .i64 (l0.length:Int),.int .i64 a1,.int .i64 0,.slice none 0 0,.slice none 0 0,.slice Ac t254.length cc,.int .i64 0,.slice none 0 0,.int .i64 0,.int .i64 0,.int .i64 0,.slice none 0 0,.int .i64 0,.int .i64 0,.int .i64 0,.slice none 0 0]) (blk_put (cs':=#[.int .i64 (l0.length:Int),.int .i64 a1,.int .i64 0,.slice none 0 0,.slice none 0 0,.slice Ac t254.length cc,.int .i64 0,.slice none 0 0,.int .i64 0,.int .i64 0,.int .i64 0,.slice none 0 0,.int .i64 0,.int .i64 0,.int .i64 0,.slice none 0 0]) (blk_put (cs':=#[.int .i64 (l0.length:Int),.int .i64 a1,.int .i64 0,.slice none 0 0,.slice none 0 0,.slice Ac t254.length cc,.int .i64 0,.slice none 0 0,.int .i64 0,.int .i64 0,.int .i64 0,.slice none 0 0,.int .i64 0,.int .i64 0,.int .i64 0,.slice none 0 0]) (blk_put (cs':=#[.int .i64 (l0.length:Int),.int .i64 a1,.int .i64 0,.slice none 0 0,.slice none 0 0,.slice Ac t254.length cc,.int .i64 0,.slice none 0 0,.int .i64 0,.int .i64 0,.int .i64 0,.slice none 0 0,.int .i64 0,.int .i64 0,.int .i64 0,.slice none 0 0]) (blk_put (cs':=#[.int .i64 (l0.length:Int),.int .i64 a1,.int .i64 0,.slice none 0 0,.slice none 0 0,.slice Ac t254.length cc,.int .i64 0,.slice none 0 0,.int .i64 0,.int .i64 0,.int .i64 0,.slice none 0 0,.int .i64 0,.int .i64 0,.int .i64 0,.slice none 0 0]) (blk_put (cs':=#[.int .i64 (l0.length:Int),.int .i64 a1,.int .i64 0,.slice none 0 0,.slice none 0 0,.slice none 0 0,.int .i64 0,.slice none 0 0,.int .i64 0,.int .i64 0,.int .i64 0,.slice none 0 0,.int .i64 0,.int .i64 0,.int .i64 0,.slice none 0 0]) (blk_put (cs':=#[.int .i64 (l0.length:Int),.int .i64 a1,.int .i64 0,.slice none 0 0,.slice none 0 0,.slice none 0 0,.int .i64 0,.slice none 0 0,.int .i64 0,.int .i64 0,.int .i64 0,.slice none 0 0,.int .i64 0,.int .i64 0,.int .i64 0,.slice none 0 0]) (blk_put (cs':=#[.int .i64 (l0.length:Int),.int .i64 a1,.int .i64 0,.slice none 0 0,.slice none 0 0,.slice none 0 0,.int .i64 0,.slice none 0 0,.int .i64 0,.int .i64 0,.int .i64 0,.slice none 0 0,.int .i64 0,.int .i64 0,.int .i64 0,.slice none 0 0]) (blk_put (cs':=#[.int .i64 (l0.length:Int),.int .i64 a1,.int .i64 0,.slice none 0 0,.slice none 0 0,.slice none 0 0,.int .i64 0,.slice none 0 0,.int .i64 0,.int .i64 0,.int .i64 0,.slice none 0 0,.int .i64 0,.int .i64 0,.int .i64 0,.slice none 0 0]) (blk_put (cs':=#[.int .i64 (l0.length:Int),.int .i64 0,.int .i64 0,.slice none 0 0,.slice none 0 0,.slice none 0 0,.int .i64 0,.slice none 0 0,.int .i64 0,.int .i64 0,.int .i64 0,.slice none 0 0,.int .i64 0,.int .i64 0,.int .i64 0,.slice none 0 0]) HW.out.bb 0 _ rfl) 1 _ rfl) 2 _ rfl) 3 _ rfl) 4 _ rfl) 5 _ rfl) 6 _ rfl) 7 _ rfl) 8 _ rfl) 9 _ rfl) 10 _ rfl) 11 _ rfl) 12 _ rfl) 13 _ rfl) 14 _ rfl) 15 _ rfl)));clear hw)
    |((with_reducible refine gate_callee (f:=18) rfl ?_);refine gL (some 42) Try.func18 #[.slice Ab t251.length cb] ?_;(with_reducible refine (spec_WaveOf.calls k _ _ t251 t258 t259 t262 t265 _ ?side1 ?side2 A14.out).mono ?_);(case side1=>exact kC (Kd.R_reads' HW.out.now.1.2).2.2);(case side2=>exact (Kd.R_reads' HW.out.now.1.2).2.1);rintro e w11 ⟨vz_,vl_,rfl,ho0,ho1,hb⟩;refine⟨_,rfl,?_⟩;obtain⟨Az,cz,e_⟩:=Kd.R_slice ho0;subst e_;obtain⟨Al,cl,e_⟩:=Kd.S_slice ho1;subst e_;replace HW:=mk0 (((HW.out.below hb).addR (Kd.R_lower ho0 HW.out.be.size) (by decide)).addS (Kd.S_lower ho1 HW.out.be.size) (by decide));clear hb ho0 ho1)
    |((with_reducible refine gate_store (t:=26) (p:=45) (v:=.tmp 43) rfl ?_);refine store_event (t:=26) (p:=45) (v:=.tmp 43) (w1:=(World.setCell (World.setCell (World.setCell w11 ⟨gb,2,none⟩ (.int .i64 t258)) ⟨gb,3,none⟩ (.slice Az t259.length cz)) ⟨gb,4,none⟩ (.slice Al t262.length cl))) ?hg ?ho ?hn ?hr ?_;(case ho=>rfl);(case hg=>rfl);(case hn=>rfl);(case hr=>have c2_:_ = some (Value.int .i64 0):=(blk_cell HW.out.bb 2).trans rfl;have f2_:=blk_frozen HW.out.bb 2;have c3_:_ = some (Value.slice none 0 0):=(blk_cell HW.out.bb 3).trans rfl;have f3_:=blk_frozen HW.out.bb 3;have c4_:_ = some (Value.slice none 0 0):=(blk_cell HW.out.bb 4).trans rfl;have f4_:=blk_frozen HW.out.bb 4;first|(go_simp;done)|(go_simp;rfl));intro w12 hw;replace HW:=mk0 (HW.out.setb HN.out (W1:=w12) (c1:=#[.int .i64 (l0.length:Int),.int .i64 a1,.int .i64 t258,.slice Az t259.length cz,.slice Al t262.length cl,.slice Ac t254.length cc,.int .i64 0,.slice none 0 0,.int .i64 0,.int .i64 0,.int .i64 0,.slice none 0 0,.int .i64 0,.int .i64 0,.int .i64 0,.slice none 0 0]) (by rw [hw];exact Fm.gg (Fm.gg (Fm.gc _ gb 2 _) (Fm.gc _ gb 3 _)) (Fm.gc _ gb 4 _)) (by rw [hw];exact (blk_put (cs':=#[.int .i64 (l0.length:Int),.int .i64 a1,.int .i64 t258,.slice Az t259.length cz,.slice Al t262.length cl,.slice Ac t254.length cc,.int .i64 0,.slice none 0 0,.int .i64 0,.int .i64 0,.int .i64 0,.slice none 0 0,.int .i64 0,.int .i64 0,.int .i64 0,.slice none 0 0]) (blk_put (cs':=#[.int .i64 (l0.length:Int),.int .i64 a1,.int .i64 t258,.slice Az t259.length cz,.slice none 0 0,.slice Ac t254.length cc,.int .i64 0,.slice none 0 0,.int .i64 0,.int .i64 0,.int .i64 0,.slice none 0 0,.int .i64 0,.int .i64 0,.int .i64 0,.slice none 0 0]) (blk_put (cs':=#[.int .i64 (l0.length:Int),.int .i64 a1,.int .i64 t258,.slice none 0 0,.slice none 0 0,.slice Ac t254.length cc,.int .i64 0,.slice none 0 0,.int .i64 0,.int .i64 0,.int .i64 0,.slice none 0 0,.int .i64 0,.int .i64 0,.int .i64 0,.slice none 0 0]) HW.out.bb 2 _ rfl) 3 _ rfl) 4 _ rfl)));clear hw)
    |((with_reducible refine gate_dst (N:=46) rfl ?_);refine Kd.R_lit (Kd.int .i64) (w0:=w12) w12.heap.size 3 ?hg (N:=46) ?hd (xs:=([]:List Int)) (inner:=[]) (ok:=fun _=>True) (okp:=fun _=>True) ?hr ?hp (fun _ hk=>hk) trivial (Below.refl _ _) (Nat.le_refl _) (by simp) ?_;(case hd=>rfl);(case hg=>rfl);(case hr=>first|(go_simp;done)|(go_simp;rfl));(case hp=>exact (Reps.none _ _));intro vm w13 ho hb hg_ hn_;have HM:=mk0 ho;have HL:=mk0 hb;clear ho hb hg_ hn_)
    |((with_reducible refine gate_dst (N:=47) rfl ?_);refine Kd.R_lit (Kd.int .i64) (w0:=w12) w12.heap.size 3 ?hg (N:=47) ?hd (xs:=([]:List Int)) (inner:=[]) (ok:=fun _=>True) (okp:=fun _=>True) ?hr ?hp (fun _ hk=>hk) trivial HL.out HL.out.size (by simp) ?_;(case hd=>rfl);(case hg=>rfl);(case hr=>first|(go_simp;done)|(go_simp;rfl));(case hp=>exact (Reps.none _ _));intro vs w14 ho hb hg_ hn_;have HT:=mk0 (Fm.Two.of HL.out HM.out hg_ hb ho hn_);clear ho hb hg_ hn_ HM HL))
   have H2:=mk0 (show spec_FmOf.l0 k l0 a1 [] [] 0 t244 t247 t254 (l0.length:Int) a1 t258 t259 t262 0 0 0 0 0 0 0 = some (r1,r2,r3,r4,r5,r6,r7,r8,r9,r10,r11,r12,r13,r14,r15,r16,r17) from H'.out)
   clear H'
   have HRO:=mk0 (fun (W:World) (hb:Below w12.heap.size w12 W)=>(Kd.R_reads' (HW.out.below hb).now.1.1.1.1.1.2).2.2)
   go_loopg [11,12,13] k (fun kq v11 v12 v13 w'=>∃ (x11 x12:List Int) (x13:Int),v13 = .int .i64 x13 ∧ Aside0 (spec_FmOf.l0 kq l0 a1 x11 x12 x13 t244 t247 t254 (l0.length:Int) a1 t258 t259 t262 0 0 0 0 0 0 0 = some (r1,r2,r3,r4,r5,r6,r7,r8,r9,r10,r11,r12,r13,r14,r15,r16,r17)) ∧ Aside0 (kq ≤ k) ∧ Aside0 (Fm.Two (Kd.int .i64) (Kd.int .i64) 3 3 w12 w' v11 v12 x11 x12))
   case atStart=>exact⟨[],[],0,eS,H2,⟨Nat.le_refl _⟩,HT⟩
   case round =>
    clear H2 HT
    obtain⟨x11,x12,x13,rfl,HA,HK2,HT⟩:=hrel
    cases gk with
    | zero=>exact absurd HA.out (by simp [spec_FmOf.l0])
    | succ k2 =>
     have H:=HA.out
     clear HA
     simp only [spec_FmOf.l0] at H
     by_cases c33:x13 < (t244.length:Int)
     ·rw [if_pos c33] at H
      have c33b0:decide (x13 < (t244.length:Int)) = true:=decide_eq_true c33
      by_cases c34:0 ≤ x13
      rotate_left
      ·rw [if_neg c34] at H
       exact nn H
      rw [if_pos c34] at H
      have c34b0:decide (0 ≤ x13) = true:=decide_eq_true c34
      by_cases c35:a1 = 0
      ·rw [if_pos c35] at H
       exact nn H
      rw [if_neg c35] at H
      have c35b0:(a1 == 0) = false:=beq_eq_false_iff_ne.mpr c35
      have c35b1:(a1 != 0) = true:=bne_iff_ne.mpr c35
      replace H:=bE H
      obtain⟨t273,A36,H⟩:=H
      by_cases c37:x11.length < 17592186044416
      rotate_left
      ·rw [if_neg c37] at H
       exact nn H
      rw [if_pos c37] at H
      simp only [Option.bind_some] at H
      have LM1:=mk0 c37
      clear c37
      obtain⟨ad,e_,hx_⟩:=Kd.at_int (HRO.out wr HT.out.be) x13 c34 c33
      cases e_
      have M33:=mk0 c33
      have M34:=mk0 c34
      clear c33 c34
      have p_:(0 ≤ x13) = True:=eq_true (oD)
      have q_:(x13 < (t244.length:Int)) = True:=eq_true (oD)
      by_cases c38:(Int.tmod (rd t244 x13) a1) = 0
      rotate_left
      ·rw [if_neg c38] at H
       have c38b0:((Int.tmod (rd t244 x13) a1) == 0) = false:=beq_eq_false_iff_ne.mpr c38
       have c38b1:((Int.tmod (rd t244 x13) a1) != 0) = true:=bne_iff_ne.mpr c38
       have A37:=mk0 (show spec_l01Bool.f false = some t273 from (by have h_:=A36.out;rw [c38b0] at h_;exact h_))
       have H2:=mk0 H
       clear H
       go_wp2_with (first|((with_reducible refine gate_callee (f:=19) rfl ?_);refine gL (some 62) Try.func19 #[.bool false] ?_;(with_reducible refine (spec_l01Bool.calls false t273 _ A37.out).mono ?_);rintro e w' ⟨rfl,⟨nd,rfl⟩⟩;refine⟨_,rfl,?_⟩;skip)|((with_reducible refine gate_builtin (b:=.append) (xs:=#[.tmp 54,.tmp 63]) rfl ?_);at_builtin;refine Kd.R_append (Kd.int .i64) (w0:=w12) w12.heap.size rfl (.tmp 54) (.tmp 63) 23 3 (.int .i64 0) 8 rfl Try.underlying23 info3 rfl (by decide) (by omega) u11 x11 t273 [.int .i64 (t273)] (fun _=>True) (fun _=>False) rfl rfl (rfl) (fun _ hk=>hk.elim) (fun _ _=>trivial) (HT.out.drew nd).r (HT.out.drew nd).be (HT.out.drew nd).be.size (by have:=LM1.out;omega) ?_;intro vm w40 ho hb hg hat;replace HT:=mk0 ((HT.out.drew nd).app1 rfl ho hb hg hat);obtain⟨ad_,e_,hx2_⟩:=Kd.at_int (HRO.out _ HT.out.be) x13 M34.out M33.out;cases e_;clear ho hb hg hat))
       go_roundg k2
       case measure=>have:=HK2.out;omega
       case rel=>exact⟨_,_,(wrap64 (x13 + 1)),eS,H2,⟨by have:=HK2.out;omega⟩,HT⟩
      rw [if_pos c38] at H
      have c38b0:((Int.tmod (rd t244 x13) a1) == 0) = true:=beq_iff_eq.mpr c38
      have c38b1:((Int.tmod (rd t244 x13) a1) != 0) = false:=bne_eq_false_iff_eq.mpr c38
      have A37:=mk0 (show spec_l01Bool.f true = some t273 from (by have h_:=A36.out;rw [c38b0] at h_;exact h_))
      clear c38
      by_cases c39:x12.length < 17592186044416
      rotate_left
      ·rw [if_neg c39] at H
       exact nn H
      rw [if_pos c39] at H
      have LM2:=mk0 c39
      clear c39
      have H2:=mk0 H
      clear H
      go_wp2_with (first|((with_reducible refine gate_callee (f:=19) rfl ?_);refine gL (some 62) Try.func19 #[.bool true] ?_;(with_reducible refine (spec_l01Bool.calls true t273 _ A37.out).mono ?_);rintro e w' ⟨rfl,⟨nd,rfl⟩⟩;refine⟨_,rfl,?_⟩;skip)|((with_reducible refine gate_builtin (b:=.append) (xs:=#[.tmp 54,.tmp 63]) rfl ?_);at_builtin;refine Kd.R_append (Kd.int .i64) (w0:=w12) w12.heap.size rfl (.tmp 54) (.tmp 63) 23 3 (.int .i64 0) 8 rfl Try.underlying23 info3 rfl (by decide) (by omega) u11 x11 t273 [.int .i64 (t273)] (fun _=>True) (fun _=>False) rfl rfl (rfl) (fun _ hk=>hk.elim) (fun _ _=>trivial) (HT.out.drew nd).r (HT.out.drew nd).be (HT.out.drew nd).be.size (by have:=LM1.out;omega) ?_;intro vm w40 ho hb hg hat;replace HT:=mk0 ((HT.out.drew nd).app1 rfl ho hb hg hat);obtain⟨ad_,e_,hx2_⟩:=Kd.at_int (HRO.out _ HT.out.be) x13 M34.out M33.out;cases e_;clear ho hb hg hat)|((with_reducible refine gate_builtin (b:=.append) (xs:=#[.tmp 72,.tmp 79]) rfl ?_);at_builtin;refine Kd.R_append (Kd.int .i64) (w0:=w12) w12.heap.size rfl (.tmp 72) (.tmp 79) 23 3 (.int .i64 0) 8 rfl Try.underlying23 info3 rfl (by decide) (by omega) u12 x12 (wrap64 (Int.tdiv (rd t244 x13) a1)) [.int .i64 ((wrap64 (Int.tdiv (rd t244 x13) a1)))] (fun _=>True) (fun _=>False) rfl rfl (rfl) (fun _ hk=>hk.elim) (fun _ _=>trivial) HT.out.s HT.out.be HT.out.be.size (by have:=LM2.out;omega) ?_;intro vs w41 ho hb hg hat;replace HT:=mk0 (HT.out.app2 rfl ho hb hg hat);clear ho hb hg hat))
      go_roundg k2
      case measure=>have:=HK2.out;omega
      case rel=>exact⟨_,_,(wrap64 (x13 + 1)),eS,H2,⟨by have:=HK2.out;omega⟩,HT⟩
     rw [if_neg c33] at H
     have c33b0:decide (x13 < (t244.length:Int)) = false:=decide_eq_false c33
     clear c33
     have H2:=mk0 (show spec_FmOf.l1 k2 l0 a1 x11 x12 [] 0 t247 t254 (l0.length:Int) a1 t258 t259 t262 0 0 0 0 0 0 0 = some (r1,r2,r3,r4,r5,r6,r7,r8,r9,r10,r11,r12,r13,r14,r15,r16,r17) from H)
     clear H HRO
     obtain⟨wC,eC⟩:∃ q:World,q = wr:=⟨_,rfl⟩
     subst eC
     obtain⟨Am,cm,e_⟩:=Kd.R_slice HT.out.r
     subst e_
     obtain⟨As,cs,e_⟩:=Kd.R_slice HT.out.s
     subst e_
     replace HW:=mk0 (((HW.out.below HT.out.be).addR HT.out.r (by decide)).addR HT.out.s (by decide))
     clear HT
     go_wp2_with (first|((with_reducible refine gate_dst (N:=81) rfl ?_);refine Kd.R_lit (Kd.int .i64) (w0:=wC) wC.heap.size 3 ?hg (N:=81) ?hd (xs:=([]:List Int)) (inner:=[]) (ok:=fun _=>True) (okp:=fun _=>True) ?hr ?hp (fun _ hk=>hk) trivial (Below.refl _ _) (Nat.le_refl _) (by simp) ?_;(case hd=>rfl);(case hg=>rfl);(case hr=>first|(go_simp;done)|(go_simp;rfl));(case hp=>exact (Reps.none _ _));intro vi w43 ho hb hg_ hn_;have HI:=mk0 ho;have HL:=mk0 hb;clear ho hb hg_ hn_))
     have HRO:=mk0 (fun (W:World) (hb:Below wC.heap.size wC W)=>(Kd.R_reads' (HW.out.below hb).now.1.1.1.1.1.1.2).2.2)
     go_loopg [14,15] k2 (fun kq v14 v15 w'=>∃ (x14:List Int) (x15:Int),v15 = .int .i64 x15 ∧ Aside0 (spec_FmOf.l1 kq l0 a1 x11 x12 x14 x15 t247 t254 (l0.length:Int) a1 t258 t259 t262 0 0 0 0 0 0 0 = some (r1,r2,r3,r4,r5,r6,r7,r8,r9,r10,r11,r12,r13,r14,r15,r16,r17)) ∧ Aside0 (kq ≤ k2) ∧ Aside0 (Kd.R (Kd.int .i64) 3 w' wC.heap.size (fun _=>True) v14 x14) ∧ Aside0 (Below wC.heap.size wC w'))
     case atStart=>exact⟨[],0,eS,H2,⟨Nat.le_refl _⟩,HI,HL⟩
     case round =>
      clear H2 HI HL
      obtain⟨x14,x15,rfl,HA,HK3,HI,HL⟩:=hrel
      cases gk with
      | zero=>exact absurd HA.out (by simp [spec_FmOf.l1])
      | succ k3 =>
       have H:=HA.out
       clear HA
       simp only [spec_FmOf.l1] at H
       by_cases c45:x15 ≤ (l0.length:Int)
       ·rw [if_pos c45] at H
        have c45b0:decide (x15 ≤ (l0.length:Int)) = true:=decide_eq_true c45
        clear c45
        by_cases c46:0 ≤ x15
        rotate_left
        ·rw [if_neg c46] at H
         exact nn H
        rw [if_pos c46] at H
        have c46b0:decide (0 ≤ x15) = true:=decide_eq_true c46
        by_cases c47:x15 < (t247.length:Int)
        rotate_left
        ·rw [if_neg c47] at H
         exact nn H
        rw [if_pos c47] at H
        have c47b0:decide (x15 < (t247.length:Int)) = true:=decide_eq_true c47
        by_cases c48:x14.length < 17592186044416
        rotate_left
        ·rw [if_neg c48] at H
         exact nn H
        rw [if_pos c48] at H
        have LM3:=mk0 c48
        clear c48
        have H2:=mk0 H
        clear H
        obtain⟨ad,e_,hx_⟩:=Kd.at_int (HRO.out wr HL.out) x15 c46 c47
        cases e_
        clear c46 c47
        have p_:(0 ≤ x15) = True:=eq_true (oD)
        have q_:(x15 < (t247.length:Int)) = True:=eq_true (oD)
        go_wp2_with (first|((with_reducible refine gate_builtin (b:=.append) (xs:=#[.tmp 89,.tmp 94]) rfl ?_);at_builtin;refine Kd.R_append (Kd.int .i64) (w0:=wC) wC.heap.size rfl (.tmp 89) (.tmp 94) 23 3 (.int .i64 0) 8 rfl Try.underlying23 info3 rfl (by decide) (by omega) u14 x14 (rd t247 x15) [.int .i64 ((rd t247 x15))] (fun _=>True) (fun _=>False) rfl rfl (rfl) (fun _ hk=>hk.elim) (fun _ _=>trivial) HI.out HL.out HL.out.size (by have:=LM3.out;omega) ?_;intro vi w44 ho hb hg hat;replace HI:=mk0 ho;replace HL:=mk0 hb;clear ho hb hg hat))
        go_roundg k3
        case measure=>have:=HK3.out;omega
        case rel=>exact⟨_,(wrap64 (x15 + a1)),eS,H2,⟨by have:=HK3.out;omega⟩,HI,HL⟩
       rw [if_neg c45] at H
       have c45b0:decide (x15 ≤ (l0.length:Int)) = false:=decide_eq_false c45
       clear c45 HRO
       replace H:=bE H
       obtain⟨⟨t289,t290,t293⟩,A51,H⟩:=H
       dsimp only at H
       replace H:=bE H
       obtain⟨t294,A52,H⟩:=H
       replace H:=bE H
       obtain⟨⟨t295,t296,t297,t298,t301⟩,A53,H⟩:=H
       dsimp only at H
       replace H:=bE H
       obtain⟨t302,A54,H⟩:=H
       replace H:=bE H
       obtain⟨⟨t303,t304,t305,t306,t309⟩,A55,H⟩:=H
       dsimp only at H
       simp only [Option.some.injEq,Prod.mk.injEq] at H
       obtain⟨rfl,rfl,rfl,rfl,rfl,rfl,rfl,rfl,rfl,rfl,rfl,rfl,rfl,rfl,rfl,rfl,rfl⟩:=H
       obtain⟨Ai,ci,e_⟩:=Kd.R_slice HI.out
       subst e_
       replace HW:=mk0 ((HW.out.below HL.out).addR HI.out (by decide))
       clear HI HL
       go_wp2_with (first
        |((with_reducible refine gate_callee (f:=20) rfl ?_);refine gL (some 98) Try.func20 #[.slice Am x11.length cm] ?_;(with_reducible refine (spec_BitsOf.calls k3 _ _ x11 t289 t290 t293 _ ?side1 ?side2 A51.out).mono ?_);(case side1=>exact kC (Kd.R_reads' HW.out.now.1.1.2).2.2);(case side2=>exact (Kd.R_reads' HW.out.now.1.1.2).2.1);rintro e w50 ⟨v50_,rfl,ho0,hb⟩;refine⟨_,rfl,?_⟩;obtain⟨Aq,cq,e_⟩:=Kd.R_slice ho0;subst e_;replace HW:=mk0 ((HW.out.below hb).addR (Kd.R_lower ho0 HW.out.be.size) (by decide));clear hb ho0)
        |((with_reducible refine gate_store (t:=29) (p:=101) (v:=.tmp 99) rfl ?_);refine store_event (t:=29) (p:=101) (v:=.tmp 99) (w1:=(World.setCell (World.setCell w50 ⟨gb,6,none⟩ (.int .i64 t289)) ⟨gb,7,none⟩ (.slice Aq t290.length cq))) ?hg ?ho ?hn ?hr ?_;(case ho=>rfl);(case hg=>rfl);(case hn=>rfl);(case hr=>have c6_:_ = some (Value.int .i64 0):=(blk_cell HW.out.bb 6).trans rfl;have f6_:=blk_frozen HW.out.bb 6;have c7_:_ = some (Value.slice none 0 0):=(blk_cell HW.out.bb 7).trans rfl;have f7_:=blk_frozen HW.out.bb 7;first|(go_simp;done)|(go_simp;rfl));intro w51 hw;replace HW:=mk0 (HW.out.setb HN.out (W1:=w51) (c1:=#[.int .i64 (l0.length:Int),.int .i64 a1,.int .i64 t258,.slice Az t259.length cz,.slice Al t262.length cl,.slice Ac t254.length cc,.int .i64 t289,.slice Aq t290.length cq,.int .i64 0,.int .i64 0,.int .i64 0,.slice none 0 0,.int .i64 0,.int .i64 0,.int .i64 0,.slice none 0 0]) (by rw [hw];exact Fm.gg (Fm.gc _ gb 6 _) (Fm.gc _ gb 7 _)) (by rw [hw];exact (blk_put (cs':=#[.int .i64 (l0.length:Int),.int .i64 a1,.int .i64 t258,.slice Az t259.length cz,.slice Al t262.length cl,.slice Ac t254.length cc,.int .i64 t289,.slice Aq t290.length cq,.int .i64 0,.int .i64 0,.int .i64 0,.slice none 0 0,.int .i64 0,.int .i64 0,.int .i64 0,.slice none 0 0]) (blk_put (cs':=#[.int .i64 (l0.length:Int),.int .i64 a1,.int .i64 t258,.slice Az t259.length cz,.slice Al t262.length cl,.slice Ac t254.length cc,.int .i64 t289,.slice none 0 0,.int .i64 0,.int .i64 0,.int .i64 0,.slice none 0 0,.int .i64 0,.int .i64 0,.int .i64 0,.slice none 0 0]) HW.out.bb 6 _ rfl) 7 _ rfl)));clear hw)
        |((with_reducible refine gate_callee (f:=22) rfl ?_);refine gL (some 106) Try.func22 #[.int .i64 (l0.length:Int)] ?_;(with_reducible refine (spec_WidthOf.calls k3 _ t294 _ A52.out).mono ?_);rintro e w' ⟨rfl,⟨nd,rfl⟩⟩;refine⟨_,rfl,?_⟩;skip)
        |((with_reducible refine gate_callee (f:=21) rfl ?_);refine gL (some 107) Try.func21 #[.slice As x12.length cs,.int .i64 t294] ?_;(with_reducible refine (spec_PackOf.calls k3 _ _ x12 t294 t295 t296 t297 t298 t301 _ ?side1 ?side2 A53.out).mono ?_);(case side1=>exact kC (Kd.R_reads' (HW.out.drew nd).now.1.1.2).2.2);(case side2=>exact (Kd.R_reads' (HW.out.drew nd).now.1.1.2).2.1);rintro e w52 ⟨v_,rfl,ho0,hb⟩;refine⟨_,rfl,?_⟩;obtain⟨Ap,cp,e_⟩:=Kd.R_slice ho0;subst e_;replace HW:=mk0 (((HW.out.drew nd).below hb).addR (Kd.R_lower ho0 (HW.out.drew nd).be.size) (by decide));clear hb ho0)
        |((with_reducible refine gate_store (t:=31) (p:=110) (v:=.tmp 108) rfl ?_);refine store_event (t:=31) (p:=110) (v:=.tmp 108) (w1:=(World.setCell (World.setCell (World.setCell (World.setCell w52 ⟨gb,8,none⟩ (.int .i64 t295)) ⟨gb,9,none⟩ (.int .i64 t296)) ⟨gb,10,none⟩ (.int .i64 t297)) ⟨gb,11,none⟩ (.slice Ap t298.length cp))) ?hg ?ho ?hn ?hr ?_;(case ho=>rfl);(case hg=>rfl);(case hn=>rfl);(case hr=>have c8_:_ = some (Value.int .i64 0):=(blk_cell HW.out.bb 8).trans rfl;have f8_:=blk_frozen HW.out.bb 8;have c9_:_ = some (Value.int .i64 0):=(blk_cell HW.out.bb 9).trans rfl;have f9_:=blk_frozen HW.out.bb 9;have c10_:_ = some (Value.int .i64 0):=(blk_cell HW.out.bb 10).trans rfl;have f10_:=blk_frozen HW.out.bb 10;have c11_:_ = some (Value.slice none 0 0):=(blk_cell HW.out.bb 11).trans rfl;have f11_:=blk_frozen HW.out.bb 11;first|(go_simp;done)|(go_simp;rfl));intro w53 hw;replace HW:=mk0 (HW.out.setb HN.out (W1:=w53) (c1:=#[.int .i64 (l0.length:Int),.int .i64 a1,.int .i64 t258,.slice Az t259.length cz,.slice Al t262.length cl,.slice Ac t254.length cc,.int .i64 t289,.slice Aq t290.length cq,.int .i64 t295,.int .i64 t296,.int .i64 t297,.slice Ap t298.length cp,.int .i64 0,.int .i64 0,.int .i64 0,.slice none 0 0]) (by rw [hw];exact Fm.gg (Fm.gg (Fm.gg (Fm.gc _ gb 8 _) (Fm.gc _ gb 9 _)) (Fm.gc _ gb 10 _)) (Fm.gc _ gb 11 _)) (by rw [hw];exact (blk_put (cs':=#[.int .i64 (l0.length:Int),.int .i64 a1,.int .i64 t258,.slice Az t259.length cz,.slice Al t262.length cl,.slice Ac t254.length cc,.int .i64 t289,.slice Aq t290.length cq,.int .i64 t295,.int .i64 t296,.int .i64 t297,.slice Ap t298.length cp,.int .i64 0,.int .i64 0,.int .i64 0,.slice none 0 0]) (blk_put (cs':=#[.int .i64 (l0.length:Int),.int .i64 a1,.int .i64 t258,.slice Az t259.length cz,.slice Al t262.length cl,.slice Ac t254.length cc,.int .i64 t289,.slice Aq t290.length cq,.int .i64 t295,.int .i64 t296,.int .i64 t297,.slice none 0 0,.int .i64 0,.int .i64 0,.int .i64 0,.slice none 0 0]) (blk_put (cs':=#[.int .i64 (l0.length:Int),.int .i64 a1,.int .i64 t258,.slice Az t259.length cz,.slice Al t262.length cl,.slice Ac t254.length cc,.int .i64 t289,.slice Aq t290.length cq,.int .i64 t295,.int .i64 t296,.int .i64 0,.slice none 0 0,.int .i64 0,.int .i64 0,.int .i64 0,.slice none 0 0]) (blk_put (cs':=#[.int .i64 (l0.length:Int),.int .i64 a1,.int .i64 t258,.slice Az t259.length cz,.slice Al t262.length cl,.slice Ac t254.length cc,.int .i64 t289,.slice Aq t290.length cq,.int .i64 t295,.int .i64 0,.int .i64 0,.slice none 0 0,.int .i64 0,.int .i64 0,.int .i64 0,.slice none 0 0]) HW.out.bb 8 _ rfl) 9 _ rfl) 10 _ rfl) 11 _ rfl)));clear hw)
        |((with_reducible refine gate_callee (f:=22) rfl ?_);refine gL (some 115) Try.func22 #[.int .i64 (l0.length:Int)] ?_;(with_reducible refine (spec_WidthOf.calls k3 _ t302 _ A54.out).mono ?_);rintro e w' ⟨rfl,⟨nd,rfl⟩⟩;refine⟨_,rfl,?_⟩;skip)
        |((with_reducible refine gate_callee (f:=21) rfl ?_);refine gL (some 116) Try.func21 #[.slice Ai x14.length ci,.int .i64 t302] ?_;(with_reducible refine (spec_PackOf.calls k3 _ _ x14 t302 t303 t304 t305 t306 t309 _ ?side1 ?side2 A55.out).mono ?_);(case side1=>exact kC (Kd.R_reads' (HW.out.drew nd).now.1.1.2).2.2);(case side2=>exact (Kd.R_reads' (HW.out.drew nd).now.1.1.2).2.1);rintro e w54 ⟨v_,rfl,ho0,hb⟩;refine⟨_,rfl,?_⟩;obtain⟨Aw,cw,e_⟩:=Kd.R_slice ho0;subst e_;replace HW:=mk0 (((HW.out.drew nd).below hb).addR (Kd.R_lower ho0 (HW.out.drew nd).be.size) (by decide));clear hb ho0)
        |((with_reducible refine gate_store (t:=31) (p:=119) (v:=.tmp 117) rfl ?_);refine store_event (t:=31) (p:=119) (v:=.tmp 117) (w1:=(World.setCell (World.setCell (World.setCell (World.setCell w54 ⟨gb,12,none⟩ (.int .i64 t303)) ⟨gb,13,none⟩ (.int .i64 t304)) ⟨gb,14,none⟩ (.int .i64 t305)) ⟨gb,15,none⟩ (.slice Aw t306.length cw))) ?hg ?ho ?hn ?hr ?_;(case ho=>rfl);(case hg=>rfl);(case hn=>rfl);(case hr=>have c12_:_ = some (Value.int .i64 0):=(blk_cell HW.out.bb 12).trans rfl;have f12_:=blk_frozen HW.out.bb 12;have c13_:_ = some (Value.int .i64 0):=(blk_cell HW.out.bb 13).trans rfl;have f13_:=blk_frozen HW.out.bb 13;have c14_:_ = some (Value.int .i64 0):=(blk_cell HW.out.bb 14).trans rfl;have f14_:=blk_frozen HW.out.bb 14;have c15_:_ = some (Value.slice none 0 0):=(blk_cell HW.out.bb 15).trans rfl;have f15_:=blk_frozen HW.out.bb 15;first|(go_simp;done)|(go_simp;rfl));intro w55 hw;replace HW:=mk0 (HW.out.setb HN.out (W1:=w55) (c1:=#[.int .i64 (l0.length:Int),.int .i64 a1,.int .i64 t258,.slice Az t259.length cz,.slice Al t262.length cl,.slice Ac t254.length cc,.int .i64 t289,.slice Aq t290.length cq,.int .i64 t295,.int .i64 t296,.int .i64 t297,.slice Ap t298.length cp,.int .i64 t303,.int .i64 t304,.int .i64 t305,.slice Aw t306.length cw]) (by rw [hw];exact Fm.gg (Fm.gg (Fm.gg (Fm.gc _ gb 12 _) (Fm.gc _ gb 13 _)) (Fm.gc _ gb 14 _)) (Fm.gc _ gb 15 _)) (by rw [hw];exact (blk_put (cs':=#[.int .i64 (l0.length:Int),.int .i64 a1,.int .i64 t258,.slice Az t259.length cz,.slice Al t262.length cl,.slice Ac t254.length cc,.int .i64 t289,.slice Aq t290.length cq,.int .i64 t295,.int .i64 t296,.int .i64 t297,.slice Ap t298.length cp,.int .i64 t303,.int .i64 t304,.int .i64 t305,.slice Aw t306.length cw]) (blk_put (cs':=#[.int .i64 (l0.length:Int),.int .i64 a1,.int .i64 t258,.slice Az t259.length cz,.slice Al t262.length cl,.slice Ac t254.length cc,.int .i64 t289,.slice Aq t290.length cq,.int .i64 t295,.int .i64 t296,.int .i64 t297,.slice Ap t298.length cp,.int .i64 t303,.int .i64 t304,.int .i64 t305,.slice none 0 0]) (blk_put (cs':=#[.int .i64 (l0.length:Int),.int .i64 a1,.int .i64 t258,.slice Az t259.length cz,.slice Al t262.length cl,.slice Ac t254.length cc,.int .i64 t289,.slice Aq t290.length cq,.int .i64 t295,.int .i64 t296,.int .i64 t297,.slice Ap t298.length cp,.int .i64 t303,.int .i64 t304,.int .i64 0,.slice none 0 0]) (blk_put (cs':=#[.int .i64 (l0.length:Int),.int .i64 a1,.int .i64 t258,.slice Az t259.length cz,.slice Al t262.length cl,.slice Ac t254.length cc,.int .i64 t289,.slice Aq t290.length cq,.int .i64 t295,.int .i64 t296,.int .i64 t297,.slice Ap t298.length cp,.int .i64 t303,.int .i64 0,.int .i64 0,.slice none 0 0]) HW.out.bb 12 _ rfl) 13 _ rfl) 14 _ rfl) 15 _ rfl)));clear hw;have z0_:_ = some (Value.int .i64 (l0.length:Int)):=(blk_cell HW.out.bb 0).trans rfl;have z1_:_ = some (Value.int .i64 a1):=(blk_cell HW.out.bb 1).trans rfl;have z2_:_ = some (Value.int .i64 t258):=(blk_cell HW.out.bb 2).trans rfl;have z3_:_ = some (Value.slice Az t259.length cz):=(blk_cell HW.out.bb 3).trans rfl;have z4_:_ = some (Value.slice Al t262.length cl):=(blk_cell HW.out.bb 4).trans rfl;have z5_:_ = some (Value.slice Ac t254.length cc):=(blk_cell HW.out.bb 5).trans rfl;have z6_:_ = some (Value.int .i64 t289):=(blk_cell HW.out.bb 6).trans rfl;have z7_:_ = some (Value.slice Aq t290.length cq):=(blk_cell HW.out.bb 7).trans rfl;have z8_:_ = some (Value.int .i64 t295):=(blk_cell HW.out.bb 8).trans rfl;have z9_:_ = some (Value.int .i64 t296):=(blk_cell HW.out.bb 9).trans rfl;have z10_:_ = some (Value.int .i64 t297):=(blk_cell HW.out.bb 10).trans rfl;have z11_:_ = some (Value.slice Ap t298.length cp):=(blk_cell HW.out.bb 11).trans rfl;have z12_:_ = some (Value.int .i64 t303):=(blk_cell HW.out.bb 12).trans rfl;have z13_:_ = some (Value.int .i64 t304):=(blk_cell HW.out.bb 13).trans rfl;have z14_:_ = some (Value.int .i64 t305):=(blk_cell HW.out.bb 14).trans rfl;have z15_:_ = some (Value.slice Aw t306.length cw):=(blk_cell HW.out.bb 15).trans rfl)
        |((with_reducible refine gate_store (t:=33) (p:=4) (v:=.tmp 120) rfl ?_);refine store_event (t:=33) (p:=4) (v:=.tmp 120) (w1:=(World.setCell (World.setCell (World.setCell (World.setCell (World.setCell (World.setCell (World.setCell (World.setCell (World.setCell (World.setCell (World.setCell (World.setCell (World.setCell (World.setCell (World.setCell (World.setCell w55 ⟨ga,0,none⟩ (.int .i64 (l0.length:Int))) ⟨ga,1,none⟩ (.int .i64 a1)) ⟨ga,2,none⟩ (.int .i64 t258)) ⟨ga,3,none⟩ (.slice Az t259.length cz)) ⟨ga,4,none⟩ (.slice Al t262.length cl)) ⟨ga,5,none⟩ (.slice Ac t254.length cc)) ⟨ga,6,none⟩ (.int .i64 t289)) ⟨ga,7,none⟩ (.slice Aq t290.length cq)) ⟨ga,8,none⟩ (.int .i64 t295)) ⟨ga,9,none⟩ (.int .i64 t296)) ⟨ga,10,none⟩ (.int .i64 t297)) ⟨ga,11,none⟩ (.slice Ap t298.length cp)) ⟨ga,12,none⟩ (.int .i64 t303)) ⟨ga,13,none⟩ (.int .i64 t304)) ⟨ga,14,none⟩ (.int .i64 t305)) ⟨ga,15,none⟩ (.slice Aw t306.length cw))) ?hg ?ho ?hn ?hr ?_;(case ho=>rfl);(case hg=>rfl);(case hn=>rfl);(case hr=>have c0_:_ = some (Value.int .i64 0):=(blk_cell HW.out.ba 0).trans rfl;have f0_:=blk_frozen HW.out.ba 0;have c1_:_ = some (Value.int .i64 0):=(blk_cell HW.out.ba 1).trans rfl;have f1_:=blk_frozen HW.out.ba 1;have c2_:_ = some (Value.int .i64 0):=(blk_cell HW.out.ba 2).trans rfl;have f2_:=blk_frozen HW.out.ba 2;have c3_:_ = some (Value.slice none 0 0):=(blk_cell HW.out.ba 3).trans rfl;have f3_:=blk_frozen HW.out.ba 3;have c4_:_ = some (Value.slice none 0 0):=(blk_cell HW.out.ba 4).trans rfl;have f4_:=blk_frozen HW.out.ba 4;have c5_:_ = some (Value.slice none 0 0):=(blk_cell HW.out.ba 5).trans rfl;have f5_:=blk_frozen HW.out.ba 5;have c6_:_ = some (Value.int .i64 0):=(blk_cell HW.out.ba 6).trans rfl;have f6_:=blk_frozen HW.out.ba 6;have c7_:_ = some (Value.slice none 0 0):=(blk_cell HW.out.ba 7).trans rfl;have f7_:=blk_frozen HW.out.ba 7;have c8_:_ = some (Value.int .i64 0):=(blk_cell HW.out.ba 8).trans rfl;have f8_:=blk_frozen HW.out.ba 8;have c9_:_ = some (Value.int .i64 0):=(blk_cell HW.out.ba 9).trans rfl;have f9_:=blk_frozen HW.out.ba 9;have c10_:_ = some (Value.int .i64 0):=(blk_cell HW.out.ba 10).trans rfl;have f10_:=blk_frozen HW.out.ba 10;have c11_:_ = some (Value.slice none 0 0):=(blk_cell HW.out.ba 11).trans rfl;have f11_:=blk_frozen HW.out.ba 11;have c12_:_ = some (Value.int .i64 0):=(blk_cell HW.out.ba 12).trans rfl;have f12_:=blk_frozen HW.out.ba 12;have c13_:_ = some (Value.int .i64 0):=(blk_cell HW.out.ba 13).trans rfl;have f13_:=blk_frozen HW.out.ba 13;have c14_:_ = some (Value.int .i64 0):=(blk_cell HW.out.ba 14).trans rfl;have f14_:=blk_frozen HW.out.ba 14;have c15_:_ = some (Value.slice none 0 0):=(blk_cell HW.out.ba 15).trans rfl;have f15_:=blk_frozen HW.out.ba 15;first|(go_simp;done)|(go_simp;rfl));intro w56 hw;replace HW:=mk0 (HW.out.seta HN.out (W1:=w56) (c1:=#[.int .i64 (l0.length:Int),.int .i64 a1,.int .i64 t258,.slice Az t259.length cz,.slice Al t262.length cl,.slice Ac t254.length cc,.int .i64 t289,.slice Aq t290.length cq,.int .i64 t295,.int .i64 t296,.int .i64 t297,.slice Ap t298.length cp,.int .i64 t303,.int .i64 t304,.int .i64 t305,.slice Aw t306.length cw]) (by rw [hw];exact Fm.gg (Fm.gg (Fm.gg (Fm.gg (Fm.gg (Fm.gg (Fm.gg (Fm.gg (Fm.gg (Fm.gg (Fm.gg (Fm.gg (Fm.gg (Fm.gg (Fm.gg (Fm.gc _ ga 0 _) (Fm.gc _ ga 1 _)) (Fm.gc _ ga 2 _)) (Fm.gc _ ga 3 _)) (Fm.gc _ ga 4 _)) (Fm.gc _ ga 5 _)) (Fm.gc _ ga 6 _)) (Fm.gc _ ga 7 _)) (Fm.gc _ ga 8 _)) (Fm.gc _ ga 9 _)) (Fm.gc _ ga 10 _)) (Fm.gc _ ga 11 _)) (Fm.gc _ ga 12 _)) (Fm.gc _ ga 13 _)) (Fm.gc _ ga 14 _)) (Fm.gc _ ga 15 _)) (by rw [hw];exact (blk_put (cs':=#[.int .i64 (l0.length:Int),.int .i64 a1,.int .i64 t258,.slice Az t259.length cz,.slice Al t262.length cl,.slice Ac t254.length cc,.int .i64 t289,.slice Aq t290.length cq,.int .i64 t295,.int .i64 t296,.int .i64 t297,.slice Ap t298.length cp,.int .i64 t303,.int .i64 t304,.int .i64 t305,.slice Aw t306.length cw]) (blk_put (cs':=#[.int .i64 (l0.length:Int),.int .i64 a1,.int .i64 t258,.slice Az t259.length cz,.slice Al t262.length cl,.slice Ac t254.length cc,.int .i64 t289,.slice Aq t290.length cq,.int .i64 t295,.int .i64 t296,.int .i64 t297,.slice Ap t298.length cp,.int .i64 t303,.int .i64 t304,.int .i64 t305,.slice none 0 0]) (blk_put (cs':=#[.int .i64 (l0.length:Int),.int .i64 a1,.int .i64 t258,.slice Az t259.length cz,.slice Al t262.length cl,.slice Ac t254.length cc,.int .i64 t289,.slice Aq t290.length cq,.int .i64 t295,.int .i64 t296,.int .i64 t297,.slice Ap t298.length cp,.int .i64 t303,.int .i64 t304,.int .i64 0,.slice none 0 0]) (blk_put (cs':=#[.int .i64 (l0.length:Int),.int .i64 a1,.int .i64 t258,.slice Az t259.length cz,.slice Al t262.length cl,.slice Ac t254.length cc,.int .i64 t289,.slice Aq t290.length cq,.int .i64 t295,.int .i64 t296,.int .i64 t297,.slice Ap t298.length cp,.int .i64 t303,.int .i64 0,.int .i64 0,.slice none 0 0]) (blk_put (cs':=#[.int .i64 (l0.length:Int),.int .i64 a1,.int .i64 t258,.slice Az t259.length cz,.slice Al t262.length cl,.slice Ac t254.length cc,.int .i64 t289,.slice Aq t290.length cq,.int .i64 t295,.int .i64 t296,.int .i64 t297,.slice Ap t298.length cp,.int .i64 0,.int .i64 0,.int .i64 0,.slice none 0 0]) (blk_put (cs':=#[.int .i64 (l0.length:Int),.int .i64 a1,.int .i64 t258,.slice Az t259.length cz,.slice Al t262.length cl,.slice Ac t254.length cc,.int .i64 t289,.slice Aq t290.length cq,.int .i64 t295,.int .i64 t296,.int .i64 t297,.slice none 0 0,.int .i64 0,.int .i64 0,.int .i64 0,.slice none 0 0]) (blk_put (cs':=#[.int .i64 (l0.length:Int),.int .i64 a1,.int .i64 t258,.slice Az t259.length cz,.slice Al t262.length cl,.slice Ac t254.length cc,.int .i64 t289,.slice Aq t290.length cq,.int .i64 t295,.int .i64 t296,.int .i64 0,.slice none 0 0,.int .i64 0,.int .i64 0,.int .i64 0,.slice none 0 0]) (blk_put (cs':=#[.int .i64 (l0.length:Int),.int .i64 a1,.int .i64 t258,.slice Az t259.length cz,.slice Al t262.length cl,.slice Ac t254.length cc,.int .i64 t289,.slice Aq t290.length cq,.int .i64 t295,.int .i64 0,.int .i64 0,.slice none 0 0,.int .i64 0,.int .i64 0,.int .i64 0,.slice none 0 0]) (blk_put (cs':=#[.int .i64 (l0.length:Int),.int .i64 a1,.int .i64 t258,.slice Az t259.length cz,.slice Al t262.length cl,.slice Ac t254.length cc,.int .i64 t289,.slice Aq t290.length cq,.int .i64 0,.int .i64 0,.int .i64 0,.slice none 0 0,.int .i64 0,.int .i64 0,.int .i64 0,.slice none 0 0]) (blk_put (cs':=#[.int .i64 (l0.length:Int),.int .i64 a1,.int .i64 t258,.slice Az t259.length cz,.slice Al t262.length cl,.slice Ac t254.length cc,.int .i64 t289,.slice none 0 0,.int .i64 0,.int .i64 0,.int .i64 0,.slice none 0 0,.int .i64 0,.int .i64 0,.int .i64 0,.slice none 0 0]) (blk_put (cs':=#[.int .i64 (l0.length:Int),.int .i64 a1,.int .i64 t258,.slice Az t259.length cz,.slice Al t262.length cl,.slice Ac t254.length cc,.int .i64 0,.slice none 0 0,.int .i64 0,.int .i64 0,.int .i64 0,.slice none 0 0,.int .i64 0,.int .i64 0,.int .i64 0,.slice none 0 0]) (blk_put (cs':=#[.int .i64 (l0.length:Int),.int .i64 a1,.int .i64 t258,.slice Az t259.length cz,.slice Al t262.length cl,.slice none 0 0,.int .i64 0,.slice none 0 0,.int .i64 0,.int .i64 0,.int .i64 0,.slice none 0 0,.int .i64 0,.int .i64 0,.int .i64 0,.slice none 0 0]) (blk_put (cs':=#[.int .i64 (l0.length:Int),.int .i64 a1,.int .i64 t258,.slice Az t259.length cz,.slice none 0 0,.slice none 0 0,.int .i64 0,.slice none 0 0,.int .i64 0,.int .i64 0,.int .i64 0,.slice none 0 0,.int .i64 0,.int .i64 0,.int .i64 0,.slice none 0 0]) (blk_put (cs':=#[.int .i64 (l0.length:Int),.int .i64 a1,.int .i64 t258,.slice none 0 0,.slice none 0 0,.slice none 0 0,.int .i64 0,.slice none 0 0,.int .i64 0,.int .i64 0,.int .i64 0,.slice none 0 0,.int .i64 0,.int .i64 0,.int .i64 0,.slice none 0 0]) (blk_put (cs':=#[.int .i64 (l0.length:Int),.int .i64 a1,.int .i64 0,.slice none 0 0,.slice none 0 0,.slice none 0 0,.int .i64 0,.slice none 0 0,.int .i64 0,.int .i64 0,.int .i64 0,.slice none 0 0,.int .i64 0,.int .i64 0,.int .i64 0,.slice none 0 0]) (blk_put (cs':=#[.int .i64 (l0.length:Int),.int .i64 0,.int .i64 0,.slice none 0 0,.slice none 0 0,.slice none 0 0,.int .i64 0,.slice none 0 0,.int .i64 0,.int .i64 0,.int .i64 0,.slice none 0 0,.int .i64 0,.int .i64 0,.int .i64 0,.slice none 0 0]) HW.out.ba 0 _ rfl) 1 _ rfl) 2 _ rfl) 3 _ rfl) 4 _ rfl) 5 _ rfl) 6 _ rfl) 7 _ rfl) 8 _ rfl) 9 _ rfl) 10 _ rfl) 11 _ rfl) 12 _ rfl) 13 _ rfl) 14 _ rfl) 15 _ rfl)));clear hw))
       refine bodyPost_ret (results_ct rfl _ _ ga 33 #[.int .i64 (l0.length:Int),.int .i64 a1,.int .i64 t258,.slice Az t259.length cz,.slice Al t262.length cl,.slice Ac t254.length cc,.int .i64 t289,.slice Aq t290.length cq,.int .i64 t295,.int .i64 t296,.int .i64 t297,.slice Ap t298.length cp,.int .i64 t303,.int .i64 t304,.int .i64 t305,.slice Aw t306.length cw] (0,0) _ rfl HW.out.ba Try.underlying33 rfl (by kernel_rfl)) rfl ?_
       exact⟨_,_,_,_,_,_,eR,⟨HW.out.now.1.1.1.1.1.1.1.2,HW.out.now.1.1.1.1.1.1.2,HW.out.now.1.1.1.1.1.1.1.1.2,HW.out.now.1.1.2,HW.out.now.1.2,HW.out.now.2⟩,HW.out.be⟩
/-! ### laws_toByteS: function 5 -/
def laws_toByteS.l0 : Nat → List Int → Int → List Int → Option (List Int)
 | 0, _, _, _ => none
 | k + 1, x0, x4, x7 => if x4 < (x0.length : Int) then (if 0 ≤ x4 then (if x4 < (x7.length : Int) then (laws_toByteS.l0 k x0 (wrap64 (x4 + 1)) (x7.set (x4 : Int).toNat (rd x0 x4))) else (none)) else (none)) else (some x7)
def laws_toByteS.f (k : Nat) (l0 : List Int) : Option (List Int) := if 0 ≤ (l0.length : Int) then (if ((l0.length : Int) : Int).toNat ≤ 281474976710656 then (laws_toByteS.l0 k l0 0 (List.replicate ((l0.length : Int) : Int).toNat 0)) else (none)) else (none)
set_option maxHeartbeats 8000000 in
set_option maxRecDepth 100000 in
theorem laws_toByteS.calls (k : Nat) (A0 : Option Addr) (c0 : Nat) (l0 : List Int) (r : List Int) (w : World) (hr0 : Kd.C (Kd.int .u8) w A0 l0.length l0) (hc0 : l0.length ≤ c0) (h : laws_toByteS.f k l0 = some r) :
  Calls Try.prog 5 #[.slice A0 l0.length c0] w fun e w' => ∃ v0_ : Value, e = .returned (v0_) ∧ Kd.R (Kd.int .u8) 5 w' w.heap.size (fun _ => True) v0_ r ∧ Below w.heap.size w w' := by
 have HR0:=mk0 hr0
 have HC0:=mk0 hc0
 clear hr0 hc0
 have HB:=mk0 (Below.refl w.heap.size w)
 have H:(if 0 ≤ (l0.length:Int) then (if ((l0.length:Int):Int).toNat ≤ 281474976710656 then (laws_toByteS.l0 k l0 0 (List.replicate ((l0.length:Int):Int).toNat 0)) else (none)) else (none)) = some r:=h
 clear h
 by_cases c2:0 ≤ (l0.length:Int)
 ·rw [if_pos c2] at H
  have c2b0:=eq_true c2
  have c2b1:decide (0 ≤ (l0.length:Int)) = true:=decide_eq_true c2
  clear c2
  by_cases c3:((l0.length:Int):Int).toNat ≤ 281474976710656
  ·rw [if_pos c3] at H
   have c3b0:=eq_true c3
   have c3b1:decide (((l0.length:Int):Int).toNat ≤ 281474976710656) = true:=decide_eq_true c3
   clear c3
   obtain⟨y310,hy310⟩:∃ y_:List Int,y_ = (List.replicate ((l0.length:Int):Int).toNat 0):=⟨_,rfl⟩
   first|(with_reducible replace H:=yB hy310 H)|rw [← hy310] at H|skip
   have Ny310:=mk0 hy310
   clear hy310
   have H':=mk0 H
   clear H
   go_enter Try.func5,Try.ntmps5
   go_wp2_with (first|((with_reducible refine gate_dst (N:=7) rfl ?_);refine Kd.R_make (Kd.int .u8) _ 5 rfl (N:=7) rfl 22 _ _ rfl (l0.length:Int) rfl rfl Try.underlying22 (.int .u8 0) 1 info5 rfl (by decide) (by omega) 0 (ok:=fun _=>True) (okp:=fun _=>True) rfl (fun _ hk=>hk) trivial (oD) (Nat.le_trans (Nat.mul_le_mul_right _ (oD:(l0.length:Int).toNat ≤ 281474976710656)) (by omega)) (Below.refl _ _) (Nat.le_refl _) ?_;intro v311 w4 ho5 hb hg_ hnew_;clear hg_ hnew_;(first|rw [← Ny310.out] at ho5|(simp only [Int.reduceToNat] at ho5;rw [← Ny310.out] at ho5));have HO312:=mk0 (Kd.R_lower ho5 (kZ HB.out));replace HB:=mk0 (kS HB.out hb);clear hb ho5))
   go_loopg [4] k (fun kq v4 w'=>∃ (x4_1:Int) (x7_1:List Int),v4 = .int .i64 x4_1 ∧ Aside0 (laws_toByteS.l0 kq l0 x4_1 x7_1 = some r) ∧ Aside0 (kq ≤ k) ∧ Aside0 (Kd.R (Kd.int .u8) 5 w' w.heap.size (fun _=>True) v311 x7_1) ∧ Aside0 (Below w.heap.size w w'))
   case atStart=>exact⟨(0),(y310),eS,H',⟨Nat.le_refl _⟩,⟨rR HO312.out⟩,⟨kB HB.out⟩⟩
   case round =>
    clear H'
    try clear c2
    try clear c2b0
    try clear c2b1
    try clear p2
    try clear c3
    try clear c3b0
    try clear c3b1
    try clear c5
    obtain⟨x4_1,x7_1,rfl,HA,HK1,HO_7,HB⟩:=hrel
    cases gk with
    | zero=>exact absurd HA.out (by simp [laws_toByteS.l0])
    | succ k1 =>
     have H:=HA.out
     clear HA
     simp only [laws_toByteS.l0] at H
     by_cases c6:x4_1 < (l0.length:Int)
     ·rw [if_pos c6] at H
      have c6b0:decide (x4_1 < (l0.length:Int)) = true:=decide_eq_true c6
      clear c6
      by_cases c7:0 ≤ x4_1
      ·rw [if_pos c7] at H
       have c7b0:decide (0 ≤ x4_1) = true:=decide_eq_true c7
       clear c7
       by_cases c8:x4_1 < (x7_1.length:Int)
       ·rw [if_pos c8] at H
        have c8b0:decide (x4_1 < (x7_1.length:Int)) = true:=decide_eq_true c8
        clear c8
        obtain⟨y314,hy314⟩:∃ y_:List Int,y_ = (x7_1.set (x4_1:Int).toNat (rd l0 x4_1)):=⟨_,rfl⟩
        first|(with_reducible replace H:=yB hy314 H)|rw [← hy314] at H|skip
        have Ny314:=mk0 hy314
        clear hy314
        have H':=mk0 H
        clear H
        have p313:0 ≤ (x4_1:Int):=oD
        have q313:x4_1 < (l0.length:Int):=oD
        obtain⟨ad313,e313,hx313_0⟩:=Kd.at_int HR0.out x4_1 p313 q313
        cases e313
        replace hx313_0:=(HB.out.cell (World.block_lt_of_cell? w _ hx313_0)).trans hx313_0
        replace p313:=eq_true p313
        replace q313:=eq_true q313
        have p9:0 ≤ (x4_1:Int):=oD
        have q9:(x4_1:Int) < ((x7_1.length:Int):Int):=oD
        obtain⟨go9,co9,eo9,gb9,gl9,cl9,HG9⟩:=Kd.R_form HO_7.out (by omega)
        (first|cases eo9|(injection eo9 with ea_ en_ ec_;(first|subst ea_|(injection ea_ with ea_;subst ea_));subst ec_;clear en_))
        have GB9:=mk0 gb9
        have GG9:=mk0 HG9
        clear gb9 gl9 HG9
        obtain⟨hx9_0,hf9_0⟩:=Kd.R_celln 0 HO_7.out (x4_1:Int) p9 q9
        replace p9:=eq_true p9
        replace q9:=eq_true q9
        have HP10:=Kd.R_putg HO_7.out (x4_1:Int) (rd l0 x4_1)
        go_wp2_with (first|((with_reducible refine gate_store (t:=5) (p:=20) rfl ?_);refine store_event (t:=5) (p:=20) (v:=?vo_w11) (w1:=(wr.setCell ⟨go9,(x4_1:Int).toNat,none⟩ (.int .u8 (rd l0 x4_1)))) ?hg ?ho ?hn ?hr ?_;(case ho=>rfl);(case hg=>rfl);(case hn=>rfl);(case hr=>first|(go_simp;done)|(go_simp;rfl));intro w11 hw;have hg:wr.grownBy w11 (some go9):=(by rw [hw];exact HP10.2);have hp_:Kd.R (Kd.int .u8) 5 w11 w.heap.size (fun _=>True) (.slice (some ⟨go9,0,none⟩) x7_1.length co9) y314:=(by rw [hw,Ny314.out];exact HP10.1);clear HP10;replace HO_7:=mk0 (hp_);replace HB:=mk0 ((by rw [hw];exact sZ (HB.out) GB9.out:Below w.heap.size w w11));clear hg hw hp_))
        go_roundg k1
        case measure=>have:=HK1.out;omega
        case rel=>exact⟨(wrap64 (x4_1 + 1)),(y314),eS,H',⟨by have:=HK1.out;omega⟩,⟨rR HO_7.out⟩,⟨kB HB.out⟩⟩
       ·rw [if_neg c8] at H
        exact nn H
      ·rw [if_neg c7] at H
       exact nn H
     ·rw [if_neg c6] at H
      have c6b0:decide (x4_1 < (l0.length:Int)) = false:=decide_eq_false c6
      clear c6
      obtain rfl:=Option.some.inj H
      go_wp2
      go_ret
      exact⟨_,eR,rR HO_7.out,kB HB.out⟩
  ·rw [if_neg c3] at H
   exact nn H
 ·rw [if_neg c2] at H
  exact nn H
/-! ### impl_TextOk: function 23 -/
def impl_TextOk.f (l0 : List Int) : Option (Bool) := some (decide ((l0.length : Int) ≤ 300))
set_option maxHeartbeats 8000000 in
set_option maxRecDepth 100000 in
theorem impl_TextOk.calls (A0 : Option Addr) (c0 : Nat) (l0 : List Int) (r : Bool) (w : World) (hr0 : Kd.C (Kd.int .u8) w A0 l0.length l0) (hc0 : l0.length ≤ c0) (h : impl_TextOk.f l0 = some r) :
  Calls Try.prog 23 #[.slice A0 l0.length c0] w fun e w' => e = .returned (.bool r) ∧ Drawn0 w w' := by
 have HR0:=mk0 hr0
 have HC0:=mk0 hc0
 clear hr0 hc0
 have H:(some (decide ((l0.length:Int) ≤ 300))) = some r:=h
 clear h
 obtain rfl:=Option.some.inj H
 go_enter Try.func23,Try.ntmps23
 go_wp2
 go_ret
 exact⟨by first|rfl|(simp;done)|(simp [*];done),by repeat (first|exact Drawn0.refl _|apply Drawn0.step)⟩
/-! ### impl_within: function 42 -/
def impl_within.f (a0 : Int) (a1 : Int) (a2 : Int) : Option (Bool) := if a1 ≤ a0 then (some (decide (a0 ≤ a2))) else (some false)
set_option maxHeartbeats 8000000 in
set_option maxRecDepth 100000 in
theorem impl_within.calls (a0 : Int) (a1 : Int) (a2 : Int) (r : Bool) (w : World) (h : impl_within.f a0 a1 a2 = some r) :
  Calls Try.prog 42 #[.int .i64 a0, .int .i64 a1, .int .i64 a2] w fun e w' => e = .returned (.bool r) ∧ Drawn0 w w' := by
 have H:(if a1 ≤ a0 then (some (decide (a0 ≤ a2))) else (some false)) = some r:=h
 clear h
 by_cases c4:a1 ≤ a0
 ·rw [if_pos c4] at H
  have c4b0:decide (a1 ≤ a0) = true:=decide_eq_true c4
  clear c4
  obtain rfl:=Option.some.inj H
  go_enter Try.func42,Try.ntmps42
  go_wp2
  go_ret
  exact⟨by first|rfl|(simp;done)|(simp [*];done),by repeat (first|exact Drawn0.refl _|apply Drawn0.step)⟩
 ·rw [if_neg c4] at H
  have c4b0:decide (a1 ≤ a0) = false:=decide_eq_false c4
  clear c4
  obtain rfl:=Option.some.inj H
  go_enter Try.func42,Try.ntmps42
  go_wp2
  go_ret
  exact⟨by first|rfl|(simp;done)|(simp [*];done),by repeat (first|exact Drawn0.refl _|apply Drawn0.step)⟩
/-! ### impl_isRate: function 24 -/
def impl_isRate.f (a0 : Int) : Option (Bool) := (impl_within.f a0 1 64).bind fun t315 => (some t315)
set_option maxHeartbeats 8000000 in
set_option maxRecDepth 100000 in
theorem impl_isRate.calls (a0 : Int) (r : Bool) (w : World) (h : impl_isRate.f a0 = some r) :
  Calls Try.prog 24 #[.int .i64 a0] w fun e w' => e = .returned (.bool r) ∧ Drawn0 w w' := by
 have H:((impl_within.f a0 1 64).bind fun t315=>(some t315)) = some r:=h
 clear h
 replace H:=bE H
 obtain⟨t315,A2,H⟩:=H
 obtain rfl:=Option.some.inj H
 go_enter Try.func24,Try.ntmps24
 go_wp2_with (first|((with_reducible refine gate_callee (f:=42) rfl ?_);refine gL (some 4) Try.func42 #[.int .i64 a0,.int .i64 1,.int .i64 64] ?_;(with_reducible refine (impl_within.calls a0 1 64 t315 _ A2.out).mono ?_);rintro e w' ⟨rfl,⟨nd,rfl⟩⟩;refine⟨_,rfl,?_⟩))
 go_ret
 exact⟨by first|rfl|(simp;done)|(simp [*];done),by repeat (first|exact Drawn0.refl _|apply Drawn0.step)⟩
end Go.Proofs.Ytjfoaiabbmkdpaa.QFnExactFmOf
