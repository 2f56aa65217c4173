-- A walk, made by walk.py, a program of this session's.
import Derived.Test.YtjfoaiabbmkdpaaQFnExactFmOfx0
import Derived.Test.YtjfoaiabbmkdpaaQFnExactFmOfx6
import Derived.Test.YtjfoaiabbmkdpaaQFnExactFmOfx11
namespace Go.Proofs.Ytjfoaiabbmkdpaa.QFnExactFmOf
open Go.RowKit Go.Proofs.YtjfoaiabbmkdpaaW.PrintWords Go.Proofs.YtjfoaiabbmkdpaaW.PrintLast Go.Proofs.YtjfoaiabbmkdpaaW.PrintMore
attribute [local go_sem] max2_int min2_int max_two min_two max_three min_three max_four min_four   -- for this text's walks alone
set_option linter.unusedVariables false
set_option linter.unusedSimpArgs false
/-! ### impl_FmOf: function 6 -/
def impl_FmOf.f (k : Nat) (l0 : List Int) (a1 : Int) : Option (Int × Int × Int × List Int × (List (S29)) × List Int × Int × List Int × Int × Int × Int × List Int × Int × Int × Int × List Int × Bool) := (impl_TextOk.f l0).bind fun t481 => (if t481 = true then ((impl_isRate.f a1).bind fun t482 => (if t482 = true then ((impl_fmOf.f k l0 a1).bind fun bt483 => (some (bt483.1, bt483.2.1, bt483.2.2.1, bt483.2.2.2.1, bt483.2.2.2.2.1, bt483.2.2.2.2.2.1, bt483.2.2.2.2.2.2.1, bt483.2.2.2.2.2.2.2.1, bt483.2.2.2.2.2.2.2.2.1, bt483.2.2.2.2.2.2.2.2.2.1, bt483.2.2.2.2.2.2.2.2.2.2.1, bt483.2.2.2.2.2.2.2.2.2.2.2.1, bt483.2.2.2.2.2.2.2.2.2.2.2.2.1, bt483.2.2.2.2.2.2.2.2.2.2.2.2.2.1, bt483.2.2.2.2.2.2.2.2.2.2.2.2.2.2.1, bt483.2.2.2.2.2.2.2.2.2.2.2.2.2.2.2, true))) else (some (0, 0, 0, ([] : List Int), ([] : List (S29)), ([] : List Int), 0, ([] : List Int), 0, 0, 0, ([] : List Int), 0, 0, 0, ([] : List Int), false)))) else (some (0, 0, 0, ([] : List Int), ([] : List (S29)), ([] : List Int), 0, ([] : List Int), 0, 0, 0, ([] : List Int), 0, 0, 0, ([] : List Int), false)))
set_option maxHeartbeats 8000000 in
set_option maxRecDepth 100000 in
theorem impl_FmOf.calls (k : Nat) (A0 : Option Addr) (c0 : Nat) (l0 : List Int) (a1 : Int) (r1 r2 r3 : Int) (r4 : List Int) (r5 : List (S29)) (r6 : List Int) (r7 : Int) (r8 : List Int) (r9 r10 r11 : Int) (r12 : List Int) (r13 r14 r15 : Int) (r16 : List Int) (r17 : Bool) (w : World) (hr0 : Kd.C (Kd.int .u8) w A0 l0.length l0) (hc0 : l0.length ≤ c0) (h : impl_FmOf.f k l0 a1 = some (r1,r2,r3,r4,r5,r6,r7,r8,r9,r10,r11,r12,r13,r14,r15,r16,r17)) :
  Calls Try.prog 6 #[.slice A0 l0.length c0, .int .i64 a1] w fun e w' => ∃ v3_ v4_ v5_ v7_ v11_ v15_ : Value, e = .returned (.tuple #[.agg #[.int .i64 r1, .int .i64 r2, .int .i64 r3, v3_, v4_, v5_, .int .i64 r7, v7_, .int .i64 r9, .int .i64 r10, .int .i64 r11, v11_, .int .i64 r13, .int .i64 r14, .int .i64 r15, v15_], .bool r17]) ∧ J6 w w' v3_ v4_ v5_ v7_ v11_ v15_ r4 r5 r6 r8 r12 r16 ∧ Below w.heap.size w w' := by
 have hu33:=Try.underlying33
 have HR0:=mk0 hr0
 have HC0:=mk0 hc0
 clear hr0 hc0
 unfold impl_FmOf.f at h
 have HC3:=mk0 h
 clear h
 go_enter Try.func6,Try.ntmps6
 go_upto_region 1 with (first|((with_reducible refine gate_dst (N:=4) rfl ?_);refine box_event ?hg (N:=4) ?hd (cs:=#[.int .i64 0,.int .i64 0,.int .i64 0,.slice none 0 0,.slice none 0 0,.slice none 0 0,.int .i64 0,.slice none 0 0,.int .i64 0,.int .i64 0,.int .i64 0,.slice none 0 0,.int .i64 0,.int .i64 0,.int .i64 0,.slice none 0 0]) (t:=33) ?hr ?_;(case hd=>rfl);(case hg=>rfl);(case hr=>first|(go_simp;done)|(go_simp;rfl));intro ga hg w4 hbox hb;have HW:=mk0 (Fm.W2.start (below_then (Below.refl w.heap.size w) (Nat.le_refl _) hb) (by rw [hg];exact Nat.le_refl _) hbox);clear hb hbox hg))
 (try simp only [Act.put,sA,sO,sS])
 go_cut [13] (fun v13 wc=>∃ (x:Bool),v13 = .bool x ∧ Aside0 ((if x = true then (some (0, 0, 0, ([] : List Int), ([] : List (S29)), ([] : List Int), 0, ([] : List Int), 0, 0, 0, ([] : List Int), 0, 0, 0, ([] : List Int), false)) else ((impl_fmOf.f k l0 a1).bind fun bt483 => (some (bt483.1, bt483.2.1, bt483.2.2.1, bt483.2.2.2.1, bt483.2.2.2.2.1, bt483.2.2.2.2.2.1, bt483.2.2.2.2.2.2.1, bt483.2.2.2.2.2.2.2.1, bt483.2.2.2.2.2.2.2.2.1, bt483.2.2.2.2.2.2.2.2.2.1, bt483.2.2.2.2.2.2.2.2.2.2.1, bt483.2.2.2.2.2.2.2.2.2.2.2.1, bt483.2.2.2.2.2.2.2.2.2.2.2.2.1, bt483.2.2.2.2.2.2.2.2.2.2.2.2.2.1, bt483.2.2.2.2.2.2.2.2.2.2.2.2.2.2.1, bt483.2.2.2.2.2.2.2.2.2.2.2.2.2.2.2, true)))) = some (r1,r2,r3,r4,r5,r6,r7,r8,r9,r10,r11,r12,r13,r14,r15,r16,r17)) ∧ Aside0 (Fm.W2 33 w wc ga ga #[.int .i64 0,.int .i64 0,.int .i64 0,.slice none 0 0,.slice none 0 0,.slice none 0 0,.int .i64 0,.slice none 0 0,.int .i64 0,.int .i64 0,.int .i64 0,.slice none 0 0,.int .i64 0,.int .i64 0,.int .i64 0,.slice none 0 0] #[.int .i64 0,.int .i64 0,.int .i64 0,.slice none 0 0,.slice none 0 0,.slice none 0 0,.int .i64 0,.slice none 0 0,.int .i64 0,.int .i64 0,.int .i64 0,.slice none 0 0,.int .i64 0,.int .i64 0,.int .i64 0,.slice none 0 0] (fun _=>True)))
 case first =>
  have H:=HC3.out
  clear HC3
  replace H:=bE H
  obtain⟨t242,A5,H⟩:=H
  by_cases c6:t242 = true
  rotate_left
  ·replace c6:=Bool.eq_false_iff.mpr c6
   subst c6
   replace H:=iF H
   have H':=mk0 H
   clear H
   go_wp2_with (first|((with_reducible refine gate_callee (f:=23) rfl ?_);refine gL (some 7) Try.func23 #[.slice A0 l0.length c0] ?_;(with_reducible refine (impl_TextOk.calls _ _ l0 false _ ?side1 ?side2 A5.out).mono ?_);(case side1=>exact kC (Kd.C_below HR0.out HW.out.be));(case side2=>exact HC0.out);rintro e w' ⟨rfl,⟨nd,rfl⟩⟩;refine⟨_,rfl,?_⟩;skip))
   go_meet
   case rel=>exact⟨true,eS,H',⟨HW.out.drew _⟩⟩
  subst c6
  replace H:=iT H
  replace H:=bE H
  obtain⟨t243,A7,H⟩:=H
  have H':=mk0 H
  clear H
  go_wp2_with (first|((with_reducible refine gate_callee (f:=23) rfl ?_);refine gL (some 7) Try.func23 #[.slice A0 l0.length c0] ?_;(with_reducible refine (impl_TextOk.calls _ _ l0 true _ ?side1 ?side2 A5.out).mono ?_);(case side1=>exact kC (Kd.C_below HR0.out HW.out.be));(case side2=>exact HC0.out);rintro e w' ⟨rfl,⟨nd,rfl⟩⟩;refine⟨_,rfl,?_⟩;skip)|(go_at_call 24;(with_reducible refine (impl_isRate.calls a1 t243 _ A7.out).mono ?_);rintro e w' ⟨rfl,⟨ne,rfl⟩⟩))
  go_meet
  case rel=>exact⟨(!t243),eS,⟨(by have h_:=H'.out;cases t243;exact h_;exact h_)⟩,⟨HW.out.drew _⟩⟩
 case rest =>
  clear HC3 HW
  obtain⟨x,rfl,HA,HW⟩:=hcut
  have H:=HA.out
  clear HA
  by_cases c8:x = true
  ·subst c8
   replace H:=iT H
   simp only [Option.some.injEq,Prod.mk.injEq] at H
   obtain⟨rfl,rfl,rfl,rfl,rfl,rfl,rfl,rfl,rfl,rfl,rfl,rfl,rfl,rfl,rfl,rfl,rfl⟩:=H
   go_wp2_with (first|((with_reducible refine gate_store (t:=33) (p:=4) (v:=.tmp 14) rfl ?_);refine store_event (t:=33) (p:=4) (v:=.tmp 14) (w1:=(World.setCell (World.setCell (World.setCell (World.setCell (World.setCell (World.setCell (World.setCell (World.setCell (World.setCell (World.setCell (World.setCell (World.setCell (World.setCell (World.setCell (World.setCell (World.setCell wc ⟨ga,0,none⟩ (.int .i64 0)) ⟨ga,1,none⟩ (.int .i64 0)) ⟨ga,2,none⟩ (.int .i64 0)) ⟨ga,3,none⟩ (.slice none 0 0)) ⟨ga,4,none⟩ (.slice none 0 0)) ⟨ga,5,none⟩ (.slice none 0 0)) ⟨ga,6,none⟩ (.int .i64 0)) ⟨ga,7,none⟩ (.slice none 0 0)) ⟨ga,8,none⟩ (.int .i64 0)) ⟨ga,9,none⟩ (.int .i64 0)) ⟨ga,10,none⟩ (.int .i64 0)) ⟨ga,11,none⟩ (.slice none 0 0)) ⟨ga,12,none⟩ (.int .i64 0)) ⟨ga,13,none⟩ (.int .i64 0)) ⟨ga,14,none⟩ (.int .i64 0)) ⟨ga,15,none⟩ (.slice none 0 0))) ?hg ?ho ?hn ?hr ?_;(case ho=>rfl);(case hg=>rfl);(case hn=>rfl);(case hr=>have c0_:_ = some (Value.int .i64 0):=(blk_cell HW.out.ba 0).trans rfl;have f0_:=blk_frozen HW.out.ba 0;have c1_:_ = some (Value.int .i64 0):=(blk_cell HW.out.ba 1).trans rfl;have f1_:=blk_frozen HW.out.ba 1;have c2_:_ = some (Value.int .i64 0):=(blk_cell HW.out.ba 2).trans rfl;have f2_:=blk_frozen HW.out.ba 2;have c3_:_ = some (Value.slice none 0 0):=(blk_cell HW.out.ba 3).trans rfl;have f3_:=blk_frozen HW.out.ba 3;have c4_:_ = some (Value.slice none 0 0):=(blk_cell HW.out.ba 4).trans rfl;have f4_:=blk_frozen HW.out.ba 4;have c5_:_ = some (Value.slice none 0 0):=(blk_cell HW.out.ba 5).trans rfl;have f5_:=blk_frozen HW.out.ba 5;have c6_:_ = some (Value.int .i64 0):=(blk_cell HW.out.ba 6).trans rfl;have f6_:=blk_frozen HW.out.ba 6;have c7_:_ = some (Value.slice none 0 0):=(blk_cell HW.out.ba 7).trans rfl;have f7_:=blk_frozen HW.out.ba 7;have c8_:_ = some (Value.int .i64 0):=(blk_cell HW.out.ba 8).trans rfl;have f8_:=blk_frozen HW.out.ba 8;have c9_:_ = some (Value.int .i64 0):=(blk_cell HW.out.ba 9).trans rfl;have f9_:=blk_frozen HW.out.ba 9;have c10_:_ = some (Value.int .i64 0):=(blk_cell HW.out.ba 10).trans rfl;have f10_:=blk_frozen HW.out.ba 10;have c11_:_ = some (Value.slice none 0 0):=(blk_cell HW.out.ba 11).trans rfl;have f11_:=blk_frozen HW.out.ba 11;have c12_:_ = some (Value.int .i64 0):=(blk_cell HW.out.ba 12).trans rfl;have f12_:=blk_frozen HW.out.ba 12;have c13_:_ = some (Value.int .i64 0):=(blk_cell HW.out.ba 13).trans rfl;have f13_:=blk_frozen HW.out.ba 13;have c14_:_ = some (Value.int .i64 0):=(blk_cell HW.out.ba 14).trans rfl;have f14_:=blk_frozen HW.out.ba 14;have c15_:_ = some (Value.slice none 0 0):=(blk_cell HW.out.ba 15).trans rfl;have f15_:=blk_frozen HW.out.ba 15;first|(go_simp;done)|(go_simp;rfl));intro w9 hw;replace HW:=mk0 (HW.out.set1 (W1:=w9) (c1:=#[.int .i64 0,.int .i64 0,.int .i64 0,.slice none 0 0,.slice none 0 0,.slice none 0 0,.int .i64 0,.slice none 0 0,.int .i64 0,.int .i64 0,.int .i64 0,.slice none 0 0,.int .i64 0,.int .i64 0,.int .i64 0,.slice none 0 0]) (by rw [hw];exact Fm.gg (Fm.gg (Fm.gg (Fm.gg (Fm.gg (Fm.gg (Fm.gg (Fm.gg (Fm.gg (Fm.gg (Fm.gg (Fm.gg (Fm.gg (Fm.gg (Fm.gg (Fm.gc _ ga 0 _) (Fm.gc _ ga 1 _)) (Fm.gc _ ga 2 _)) (Fm.gc _ ga 3 _)) (Fm.gc _ ga 4 _)) (Fm.gc _ ga 5 _)) (Fm.gc _ ga 6 _)) (Fm.gc _ ga 7 _)) (Fm.gc _ ga 8 _)) (Fm.gc _ ga 9 _)) (Fm.gc _ ga 10 _)) (Fm.gc _ ga 11 _)) (Fm.gc _ ga 12 _)) (Fm.gc _ ga 13 _)) (Fm.gc _ ga 14 _)) (Fm.gc _ ga 15 _)) (by rw [hw];exact (blk_put (cs':=#[.int .i64 0,.int .i64 0,.int .i64 0,.slice none 0 0,.slice none 0 0,.slice none 0 0,.int .i64 0,.slice none 0 0,.int .i64 0,.int .i64 0,.int .i64 0,.slice none 0 0,.int .i64 0,.int .i64 0,.int .i64 0,.slice none 0 0]) (blk_put (cs':=#[.int .i64 0,.int .i64 0,.int .i64 0,.slice none 0 0,.slice none 0 0,.slice none 0 0,.int .i64 0,.slice none 0 0,.int .i64 0,.int .i64 0,.int .i64 0,.slice none 0 0,.int .i64 0,.int .i64 0,.int .i64 0,.slice none 0 0]) (blk_put (cs':=#[.int .i64 0,.int .i64 0,.int .i64 0,.slice none 0 0,.slice none 0 0,.slice none 0 0,.int .i64 0,.slice none 0 0,.int .i64 0,.int .i64 0,.int .i64 0,.slice none 0 0,.int .i64 0,.int .i64 0,.int .i64 0,.slice none 0 0]) (blk_put (cs':=#[.int .i64 0,.int .i64 0,.int .i64 0,.slice none 0 0,.slice none 0 0,.slice none 0 0,.int .i64 0,.slice none 0 0,.int .i64 0,.int .i64 0,.int .i64 0,.slice none 0 0,.int .i64 0,.int .i64 0,.int .i64 0,.slice none 0 0]) (blk_put (cs':=#[.int .i64 0,.int .i64 0,.int .i64 0,.slice none 0 0,.slice none 0 0,.slice none 0 0,.int .i64 0,.slice none 0 0,.int .i64 0,.int .i64 0,.int .i64 0,.slice none 0 0,.int .i64 0,.int .i64 0,.int .i64 0,.slice none 0 0]) (blk_put (cs':=#[.int .i64 0,.int .i64 0,.int .i64 0,.slice none 0 0,.slice none 0 0,.slice none 0 0,.int .i64 0,.slice none 0 0,.int .i64 0,.int .i64 0,.int .i64 0,.slice none 0 0,.int .i64 0,.int .i64 0,.int .i64 0,.slice none 0 0]) (blk_put (cs':=#[.int .i64 0,.int .i64 0,.int .i64 0,.slice none 0 0,.slice none 0 0,.slice none 0 0,.int .i64 0,.slice none 0 0,.int .i64 0,.int .i64 0,.int .i64 0,.slice none 0 0,.int .i64 0,.int .i64 0,.int .i64 0,.slice none 0 0]) (blk_put (cs':=#[.int .i64 0,.int .i64 0,.int .i64 0,.slice none 0 0,.slice none 0 0,.slice none 0 0,.int .i64 0,.slice none 0 0,.int .i64 0,.int .i64 0,.int .i64 0,.slice none 0 0,.int .i64 0,.int .i64 0,.int .i64 0,.slice none 0 0]) (blk_put (cs':=#[.int .i64 0,.int .i64 0,.int .i64 0,.slice none 0 0,.slice none 0 0,.slice none 0 0,.int .i64 0,.slice none 0 0,.int .i64 0,.int .i64 0,.int .i64 0,.slice none 0 0,.int .i64 0,.int .i64 0,.int .i64 0,.slice none 0 0]) (blk_put (cs':=#[.int .i64 0,.int .i64 0,.int .i64 0,.slice none 0 0,.slice none 0 0,.slice none 0 0,.int .i64 0,.slice none 0 0,.int .i64 0,.int .i64 0,.int .i64 0,.slice none 0 0,.int .i64 0,.int .i64 0,.int .i64 0,.slice none 0 0]) (blk_put (cs':=#[.int .i64 0,.int .i64 0,.int .i64 0,.slice none 0 0,.slice none 0 0,.slice none 0 0,.int .i64 0,.slice none 0 0,.int .i64 0,.int .i64 0,.int .i64 0,.slice none 0 0,.int .i64 0,.int .i64 0,.int .i64 0,.slice none 0 0]) (blk_put (cs':=#[.int .i64 0,.int .i64 0,.int .i64 0,.slice none 0 0,.slice none 0 0,.slice none 0 0,.int .i64 0,.slice none 0 0,.int .i64 0,.int .i64 0,.int .i64 0,.slice none 0 0,.int .i64 0,.int .i64 0,.int .i64 0,.slice none 0 0]) (blk_put (cs':=#[.int .i64 0,.int .i64 0,.int .i64 0,.slice none 0 0,.slice none 0 0,.slice none 0 0,.int .i64 0,.slice none 0 0,.int .i64 0,.int .i64 0,.int .i64 0,.slice none 0 0,.int .i64 0,.int .i64 0,.int .i64 0,.slice none 0 0]) (blk_put (cs':=#[.int .i64 0,.int .i64 0,.int .i64 0,.slice none 0 0,.slice none 0 0,.slice none 0 0,.int .i64 0,.slice none 0 0,.int .i64 0,.int .i64 0,.int .i64 0,.slice none 0 0,.int .i64 0,.int .i64 0,.int .i64 0,.slice none 0 0]) (blk_put (cs':=#[.int .i64 0,.int .i64 0,.int .i64 0,.slice none 0 0,.slice none 0 0,.slice none 0 0,.int .i64 0,.slice none 0 0,.int .i64 0,.int .i64 0,.int .i64 0,.slice none 0 0,.int .i64 0,.int .i64 0,.int .i64 0,.slice none 0 0]) (blk_put (cs':=#[.int .i64 0,.int .i64 0,.int .i64 0,.slice none 0 0,.slice none 0 0,.slice none 0 0,.int .i64 0,.slice none 0 0,.int .i64 0,.int .i64 0,.int .i64 0,.slice none 0 0,.int .i64 0,.int .i64 0,.int .i64 0,.slice none 0 0]) HW.out.ba 0 _ rfl) 1 _ rfl) 2 _ rfl) 3 _ rfl) 4 _ rfl) 5 _ rfl) 6 _ rfl) 7 _ rfl) 8 _ rfl) 9 _ rfl) 10 _ rfl) 11 _ rfl) 12 _ rfl) 13 _ rfl) 14 _ rfl) 15 _ rfl)));clear hw))
   refine bodyPost_ret (results_ct rfl _ _ ga 33 #[.int .i64 0,.int .i64 0,.int .i64 0,.slice none 0 0,.slice none 0 0,.slice none 0 0,.int .i64 0,.slice none 0 0,.int .i64 0,.int .i64 0,.int .i64 0,.slice none 0 0,.int .i64 0,.int .i64 0,.int .i64 0,.slice none 0 0] (0,0) _ rfl HW.out.ba Try.underlying33 rfl (by kernel_rfl)) rfl ?_
   exact⟨_,_,_,_,_,_,eR,⟨_,Fm.M6.nil _ _ _ _⟩,HW.out.be⟩
  replace c8:=Bool.eq_false_iff.mpr c8
  subst c8
  replace H:=iF H
  replace H:=bE H
  obtain⟨⟨t1,t2,t3,t4,t5,t6,t7,t8,t9,t10,t11,t12,t13,t14,t15,t16⟩,A7,H⟩:=H
  dsimp only at H
  simp only [Option.some.injEq,Prod.mk.injEq] at H
  obtain⟨rfl,rfl,rfl,rfl,rfl,rfl,rfl,rfl,rfl,rfl,rfl,rfl,rfl,rfl,rfl,rfl,rfl⟩:=H
  go_wp2_with (first
   |((with_reducible refine gate_callee (f:=25) rfl ?_);refine gL (some 17) Try.func25 #[.slice A0 l0.length c0,.int .i64 a1] ?_;(with_reducible refine (impl_fmOf.calls k _ _ l0 a1 t1 t2 t3 t4 t5 t6 t7 t8 t9 t10 t11 t12 t13 t14 t15 t16 _ ?side1 ?side2 A7.out).mono ?_);(case side1=>exact kC (Kd.C_below HR0.out HW.out.be));(case side2=>exact HC0.out);rintro e w8 ⟨v3,v4,v5,v7,v11,v15,rfl,⟨f_,hm⟩,hb⟩;refine⟨_,rfl,?_⟩;obtain⟨A3,c3,e_⟩:=Kd.R_slice hm.r3;subst e_;obtain⟨A4,c4,e_⟩:=Kd.S_slice hm.r4;subst e_;obtain⟨A5,c5,e_⟩:=Kd.R_slice hm.r5;subst e_;obtain⟨A7,c7,e_⟩:=Kd.R_slice hm.r7;subst e_;obtain⟨A11,c11,e_⟩:=Kd.R_slice hm.r11;subst e_;obtain⟨A15,c15,e_⟩:=Kd.R_slice hm.r15;subst e_;have HM:=mk0 (hm.lower HW.out.be.size);replace HW:=mk0 (HW.out.below hb);clear hm hb)
   |((with_reducible refine gate_store (t:=33) (p:=4) (v:=.tmp 17) rfl ?_);refine store_event (t:=33) (p:=4) (v:=.tmp 17) (w1:=(World.setCell (World.setCell (World.setCell (World.setCell (World.setCell (World.setCell (World.setCell (World.setCell (World.setCell (World.setCell (World.setCell (World.setCell (World.setCell (World.setCell (World.setCell (World.setCell w8 ⟨ga,0,none⟩ (.int .i64 t1)) ⟨ga,1,none⟩ (.int .i64 t2)) ⟨ga,2,none⟩ (.int .i64 t3)) ⟨ga,3,none⟩ (.slice A3 t4.length c3)) ⟨ga,4,none⟩ (.slice A4 t5.length c4)) ⟨ga,5,none⟩ (.slice A5 t6.length c5)) ⟨ga,6,none⟩ (.int .i64 t7)) ⟨ga,7,none⟩ (.slice A7 t8.length c7)) ⟨ga,8,none⟩ (.int .i64 t9)) ⟨ga,9,none⟩ (.int .i64 t10)) ⟨ga,10,none⟩ (.int .i64 t11)) ⟨ga,11,none⟩ (.slice A11 t12.length c11)) ⟨ga,12,none⟩ (.int .i64 t13)) ⟨ga,13,none⟩ (.int .i64 t14)) ⟨ga,14,none⟩ (.int .i64 t15)) ⟨ga,15,none⟩ (.slice A15 t16.length c15))) ?hg ?ho ?hn ?hr ?_;(case ho=>rfl);(case hg=>rfl);(case hn=>rfl);(case hr=>have c0_:_ = some (Value.int .i64 0):=(blk_cell HW.out.ba 0).trans rfl;have f0_:=blk_frozen HW.out.ba 0;have c1_:_ = some (Value.int .i64 0):=(blk_cell HW.out.ba 1).trans rfl;have f1_:=blk_frozen HW.out.ba 1;have c2_:_ = some (Value.int .i64 0):=(blk_cell HW.out.ba 2).trans rfl;have f2_:=blk_frozen HW.out.ba 2;have c3_:_ = some (Value.slice none 0 0):=(blk_cell HW.out.ba 3).trans rfl;have f3_:=blk_frozen HW.out.ba 3;have c4_:_ = some (Value.slice none 0 0):=(blk_cell HW.out.ba 4).trans rfl;have f4_:=blk_frozen HW.out.ba 4;have c5_:_ = some (Value.slice none 0 0):=(blk_cell HW.out.ba 5).trans rfl;have f5_:=blk_frozen HW.out.ba 5;have c6_:_ = some (Value.int .i64 0):=(blk_cell HW.out.ba 6).trans rfl;have f6_:=blk_frozen HW.out.ba 6;have c7_:_ = some (Value.slice none 0 0):=(blk_cell HW.out.ba 7).trans rfl;have f7_:=blk_frozen HW.out.ba 7;have c8_:_ = some (Value.int .i64 0):=(blk_cell HW.out.ba 8).trans rfl;have f8_:=blk_frozen HW.out.ba 8;have c9_:_ = some (Value.int .i64 0):=(blk_cell HW.out.ba 9).trans rfl;have f9_:=blk_frozen HW.out.ba 9;have c10_:_ = some (Value.int .i64 0):=(blk_cell HW.out.ba 10).trans rfl;have f10_:=blk_frozen HW.out.ba 10;have c11_:_ = some (Value.slice none 0 0):=(blk_cell HW.out.ba 11).trans rfl;have f11_:=blk_frozen HW.out.ba 11;have c12_:_ = some (Value.int .i64 0):=(blk_cell HW.out.ba 12).trans rfl;have f12_:=blk_frozen HW.out.ba 12;have c13_:_ = some (Value.int .i64 0):=(blk_cell HW.out.ba 13).trans rfl;have f13_:=blk_frozen HW.out.ba 13;have c14_:_ = some (Value.int .i64 0):=(blk_cell HW.out.ba 14).trans rfl;have f14_:=blk_frozen HW.out.ba 14;have c15_:_ = some (Value.slice none 0 0):=(blk_cell HW.out.ba 15).trans rfl;have f15_:=blk_frozen HW.out.ba 15;first|(go_simp;done)|(go_simp;rfl));intro w9 hw;replace HM:=mk0 (HM.out.setbox (W1:=w9) HW.out.ba (by rw [hw];exact Fm.gg (Fm.gg (Fm.gg (Fm.gg (Fm.gg (Fm.gg (Fm.gg (Fm.gg (Fm.gg (Fm.gg (Fm.gg (Fm.gg (Fm.gg (Fm.gg (Fm.gg (Fm.gc _ ga 0 _) (Fm.gc _ ga 1 _)) (Fm.gc _ ga 2 _)) (Fm.gc _ ga 3 _)) (Fm.gc _ ga 4 _)) (Fm.gc _ ga 5 _)) (Fm.gc _ ga 6 _)) (Fm.gc _ ga 7 _)) (Fm.gc _ ga 8 _)) (Fm.gc _ ga 9 _)) (Fm.gc _ ga 10 _)) (Fm.gc _ ga 11 _)) (Fm.gc _ ga 12 _)) (Fm.gc _ ga 13 _)) (Fm.gc _ ga 14 _)) (Fm.gc _ ga 15 _)) (by decide));replace HW:=mk0 (HW.out.set1 (W1:=w9) (c1:=#[.int .i64 t1,.int .i64 t2,.int .i64 t3,.slice A3 t4.length c3,.slice A4 t5.length c4,.slice A5 t6.length c5,.int .i64 t7,.slice A7 t8.length c7,.int .i64 t9,.int .i64 t10,.int .i64 t11,.slice A11 t12.length c11,.int .i64 t13,.int .i64 t14,.int .i64 t15,.slice A15 t16.length c15]) (by rw [hw];exact Fm.gg (Fm.gg (Fm.gg (Fm.gg (Fm.gg (Fm.gg (Fm.gg (Fm.gg (Fm.gg (Fm.gg (Fm.gg (Fm.gg (Fm.gg (Fm.gg (Fm.gg (Fm.gc _ ga 0 _) (Fm.gc _ ga 1 _)) (Fm.gc _ ga 2 _)) (Fm.gc _ ga 3 _)) (Fm.gc _ ga 4 _)) (Fm.gc _ ga 5 _)) (Fm.gc _ ga 6 _)) (Fm.gc _ ga 7 _)) (Fm.gc _ ga 8 _)) (Fm.gc _ ga 9 _)) (Fm.gc _ ga 10 _)) (Fm.gc _ ga 11 _)) (Fm.gc _ ga 12 _)) (Fm.gc _ ga 13 _)) (Fm.gc _ ga 14 _)) (Fm.gc _ ga 15 _)) (by rw [hw];exact (blk_put (cs':=#[.int .i64 t1,.int .i64 t2,.int .i64 t3,.slice A3 t4.length c3,.slice A4 t5.length c4,.slice A5 t6.length c5,.int .i64 t7,.slice A7 t8.length c7,.int .i64 t9,.int .i64 t10,.int .i64 t11,.slice A11 t12.length c11,.int .i64 t13,.int .i64 t14,.int .i64 t15,.slice A15 t16.length c15]) (blk_put (cs':=#[.int .i64 t1,.int .i64 t2,.int .i64 t3,.slice A3 t4.length c3,.slice A4 t5.length c4,.slice A5 t6.length c5,.int .i64 t7,.slice A7 t8.length c7,.int .i64 t9,.int .i64 t10,.int .i64 t11,.slice A11 t12.length c11,.int .i64 t13,.int .i64 t14,.int .i64 t15,.slice none 0 0]) (blk_put (cs':=#[.int .i64 t1,.int .i64 t2,.int .i64 t3,.slice A3 t4.length c3,.slice A4 t5.length c4,.slice A5 t6.length c5,.int .i64 t7,.slice A7 t8.length c7,.int .i64 t9,.int .i64 t10,.int .i64 t11,.slice A11 t12.length c11,.int .i64 t13,.int .i64 t14,.int .i64 0,.slice none 0 0]) (blk_put (cs':=#[.int .i64 t1,.int .i64 t2,.int .i64 t3,.slice A3 t4.length c3,.slice A4 t5.length c4,.slice A5 t6.length c5,.int .i64 t7,.slice A7 t8.length c7,.int .i64 t9,.int .i64 t10,.int .i64 t11,.slice A11 t12.length c11,.int .i64 t13,.int .i64 0,.int .i64 0,.slice none 0 0]) (blk_put (cs':=#[.int .i64 t1,.int .i64 t2,.int .i64 t3,.slice A3 t4.length c3,.slice A4 t5.length c4,.slice A5 t6.length c5,.int .i64 t7,.slice A7 t8.length c7,.int .i64 t9,.int .i64 t10,.int .i64 t11,.slice A11 t12.length c11,.int .i64 0,.int .i64 0,.int .i64 0,.slice none 0 0]) (blk_put (cs':=#[.int .i64 t1,.int .i64 t2,.int .i64 t3,.slice A3 t4.length c3,.slice A4 t5.length c4,.slice A5 t6.length c5,.int .i64 t7,.slice A7 t8.length c7,.int .i64 t9,.int .i64 t10,.int .i64 t11,.slice none 0 0,.int .i64 0,.int .i64 0,.int .i64 0,.slice none 0 0]) (blk_put (cs':=#[.int .i64 t1,.int .i64 t2,.int .i64 t3,.slice A3 t4.length c3,.slice A4 t5.length c4,.slice A5 t6.length c5,.int .i64 t7,.slice A7 t8.length c7,.int .i64 t9,.int .i64 t10,.int .i64 0,.slice none 0 0,.int .i64 0,.int .i64 0,.int .i64 0,.slice none 0 0]) (blk_put (cs':=#[.int .i64 t1,.int .i64 t2,.int .i64 t3,.slice A3 t4.length c3,.slice A4 t5.length c4,.slice A5 t6.length c5,.int .i64 t7,.slice A7 t8.length c7,.int .i64 t9,.int .i64 0,.int .i64 0,.slice none 0 0,.int .i64 0,.int .i64 0,.int .i64 0,.slice none 0 0]) (blk_put (cs':=#[.int .i64 t1,.int .i64 t2,.int .i64 t3,.slice A3 t4.length c3,.slice A4 t5.length c4,.slice A5 t6.length c5,.int .i64 t7,.slice A7 t8.length c7,.int .i64 0,.int .i64 0,.int .i64 0,.slice none 0 0,.int .i64 0,.int .i64 0,.int .i64 0,.slice none 0 0]) (blk_put (cs':=#[.int .i64 t1,.int .i64 t2,.int .i64 t3,.slice A3 t4.length c3,.slice A4 t5.length c4,.slice A5 t6.length c5,.int .i64 t7,.slice none 0 0,.int .i64 0,.int .i64 0,.int .i64 0,.slice none 0 0,.int .i64 0,.int .i64 0,.int .i64 0,.slice none 0 0]) (blk_put (cs':=#[.int .i64 t1,.int .i64 t2,.int .i64 t3,.slice A3 t4.length c3,.slice A4 t5.length c4,.slice A5 t6.length c5,.int .i64 0,.slice none 0 0,.int .i64 0,.int .i64 0,.int .i64 0,.slice none 0 0,.int .i64 0,.int .i64 0,.int .i64 0,.slice none 0 0]) (blk_put (cs':=#[.int .i64 t1,.int .i64 t2,.int .i64 t3,.slice A3 t4.length c3,.slice A4 t5.length c4,.slice none 0 0,.int .i64 0,.slice none 0 0,.int .i64 0,.int .i64 0,.int .i64 0,.slice none 0 0,.int .i64 0,.int .i64 0,.int .i64 0,.slice none 0 0]) (blk_put (cs':=#[.int .i64 t1,.int .i64 t2,.int .i64 t3,.slice A3 t4.length c3,.slice none 0 0,.slice none 0 0,.int .i64 0,.slice none 0 0,.int .i64 0,.int .i64 0,.int .i64 0,.slice none 0 0,.int .i64 0,.int .i64 0,.int .i64 0,.slice none 0 0]) (blk_put (cs':=#[.int .i64 t1,.int .i64 t2,.int .i64 t3,.slice none 0 0,.slice none 0 0,.slice none 0 0,.int .i64 0,.slice none 0 0,.int .i64 0,.int .i64 0,.int .i64 0,.slice none 0 0,.int .i64 0,.int .i64 0,.int .i64 0,.slice none 0 0]) (blk_put (cs':=#[.int .i64 t1,.int .i64 t2,.int .i64 0,.slice none 0 0,.slice none 0 0,.slice none 0 0,.int .i64 0,.slice none 0 0,.int .i64 0,.int .i64 0,.int .i64 0,.slice none 0 0,.int .i64 0,.int .i64 0,.int .i64 0,.slice none 0 0]) (blk_put (cs':=#[.int .i64 t1,.int .i64 0,.int .i64 0,.slice none 0 0,.slice none 0 0,.slice none 0 0,.int .i64 0,.slice none 0 0,.int .i64 0,.int .i64 0,.int .i64 0,.slice none 0 0,.int .i64 0,.int .i64 0,.int .i64 0,.slice none 0 0]) HW.out.ba 0 _ rfl) 1 _ rfl) 2 _ rfl) 3 _ rfl) 4 _ rfl) 5 _ rfl) 6 _ rfl) 7 _ rfl) 8 _ rfl) 9 _ rfl) 10 _ rfl) 11 _ rfl) 12 _ rfl) 13 _ rfl) 14 _ rfl) 15 _ rfl)));clear hw))
  refine bodyPost_ret (results_ct rfl _ _ ga 33 #[.int .i64 t1,.int .i64 t2,.int .i64 t3,.slice A3 t4.length c3,.slice A4 t5.length c4,.slice A5 t6.length c5,.int .i64 t7,.slice A7 t8.length c7,.int .i64 t9,.int .i64 t10,.int .i64 t11,.slice A11 t12.length c11,.int .i64 t13,.int .i64 t14,.int .i64 t15,.slice A15 t16.length c15] (0,0) _ rfl HW.out.ba Try.underlying33 rfl (by kernel_rfl)) rfl ?_
  exact⟨_,_,_,_,_,_,eR,⟨_,HM.out⟩,HW.out.be⟩
/-! ### laws_eqIntS: function 27 -/
def laws_eqIntS.l0 : Nat → List Int → List Int → Int → Option (Bool)
 | 0, _, _, _ => none
 | k + 1, x0, x1, x5 => if x5 < (x0.length : Int) then (if 0 ≤ x5 then (if x5 < (x1.length : Int) then (if (rd x0 x5) = (rd x1 x5) then (laws_eqIntS.l0 k x0 x1 (wrap64 (x5 + 1))) else (none)) else (none)) else (none)) else (some true)
def laws_eqIntS.f (k : Nat) (l0 : List Int) (l1 : List Int) : Option (Bool) := if (l0.length : Int) = (l1.length : Int) then (laws_eqIntS.l0 k l0 l1 0) else (none)
set_option maxHeartbeats 8000000 in
set_option maxRecDepth 100000 in
theorem laws_eqIntS.calls (k : Nat) (A0 : Option Addr) (c0 : Nat) (l0 : List Int) (A1 : Option Addr) (c1 : Nat) (l1 : List Int) (r : Bool) (w : World) (hr0 : Kd.C (Kd.int .i64) w A0 l0.length l0) (hc0 : l0.length ≤ c0) (hr1 : Kd.C (Kd.int .i64) w A1 l1.length l1) (hc1 : l1.length ≤ c1) (h : laws_eqIntS.f k l0 l1 = some r) :
  Calls Try.prog 27 #[.slice A0 l0.length c0, .slice A1 l1.length c1] w fun e w' => e = .returned (.bool r) ∧ Drawn0 w w' := by
 have HR0:=mk0 hr0
 have HC0:=mk0 hc0
 clear hr0 hc0
 have HR1:=mk0 hr1
 have HC1:=mk0 hc1
 clear hr1 hc1
 have H:(if (l0.length:Int) = (l1.length:Int) then (laws_eqIntS.l0 k l0 l1 0) else (none)) = some r:=h
 clear h
 by_cases c3:(l0.length:Int) = (l1.length:Int)
 ·rw [if_pos c3] at H
  have c3b0:((l0.length:Int) == (l1.length:Int)) = true:=beq_iff_eq.mpr c3
  have c3b1:((l0.length:Int) != (l1.length:Int)) = false:=bne_eq_false_iff_eq.mpr c3
  have c3b2:(l0.length == l1.length) = true:=by first|simpa using c3|(simp at c3 ⊢;omega)
  clear c3
  have H':=mk0 H
  clear H
  go_enter Try.func27,Try.ntmps27
  go_wp2
  repeat (go_quiet (fail);try go_wp2)
  go_loopg [5] k (fun kq v5 w'=>∃ (x5_1:Int),v5 = .int .i64 x5_1 ∧ Aside0 (laws_eqIntS.l0 kq l0 l1 x5_1 = some r) ∧ Aside0 (kq ≤ k) ∧ Drawn0 w w')
  case atStart=>exact⟨(0),eS,H',⟨Nat.le_refl _⟩,by repeat (first|exact Drawn0.refl _|apply Drawn0.step)⟩
  case round =>
   clear H'
   try clear c1
   try clear c2
   try clear p2
   try clear c3
   try clear c3b0
   try clear c3b1
   try clear c3b2
   obtain⟨x5_1,rfl,HA,HK1,⟨m1,rfl⟩⟩:=hrel
   cases gk with
   | zero=>exact absurd HA.out (by simp [laws_eqIntS.l0])
   | succ k1 =>
    have H:=HA.out
    clear HA
    simp only [laws_eqIntS.l0] at H
    by_cases c4:x5_1 < (l0.length:Int)
    ·rw [if_pos c4] at H
     have c4b0:decide (x5_1 < (l0.length:Int)) = true:=decide_eq_true c4
     clear c4
     by_cases c5:0 ≤ x5_1
     ·rw [if_pos c5] at H
      have c5b0:decide (0 ≤ x5_1) = true:=decide_eq_true c5
      clear c5
      by_cases c6:x5_1 < (l1.length:Int)
      ·rw [if_pos c6] at H
       have c6b0:decide (x5_1 < (l1.length:Int)) = true:=decide_eq_true c6
       clear c6
       by_cases c7:(rd l0 x5_1) = (rd l1 x5_1)
       ·rw [if_pos c7] at H
        have c7b0:((rd l0 x5_1) == (rd l1 x5_1)) = true:=beq_iff_eq.mpr c7
        have c7b1:((rd l0 x5_1) != (rd l1 x5_1)) = false:=bne_eq_false_iff_eq.mpr c7
        clear c7
        have H':=mk0 H
        clear H
        have p511:0 ≤ (x5_1:Int):=oD
        have q511:x5_1 < (l0.length:Int):=oD
        obtain⟨ad511,e511,hx511_0⟩:=Kd.at_int HR0.out x5_1 p511 q511
        cases e511
        replace p511:=eq_true p511
        replace q511:=eq_true q511
        have p512:0 ≤ (x5_1:Int):=oD
        have q512:x5_1 < (l1.length:Int):=oD
        obtain⟨ad512,e512,hx512_0⟩:=Kd.at_int HR1.out x5_1 p512 q512
        cases e512
        replace p512:=eq_true p512
        replace q512:=eq_true q512
        go_wp2
        repeat (go_quiet (fail);try go_wp2)
        go_roundg k1
        case measure=>have:=HK1.out;omega
        case rel=>exact⟨(wrap64 (x5_1 + 1)),eS,H',⟨by have:=HK1.out;omega⟩,by repeat (first|exact Drawn0.refl _|apply Drawn0.step)⟩
       ·rw [if_neg c7] at H
        exact nn H
      ·rw [if_neg c6] at H
       exact nn H
     ·rw [if_neg c5] at H
      exact nn H
    ·rw [if_neg c4] at H
     have c4b0:decide (x5_1 < (l0.length:Int)) = false:=decide_eq_false c4
     clear c4
     obtain rfl:=Option.some.inj H
     go_wp2
     repeat (go_quiet (fail);try go_wp2)
     go_ret
     exact⟨by first|rfl|(simp;done)|(simp [*];done),by repeat (first|exact Drawn0.refl _|apply Drawn0.step)⟩
 ·rw [if_neg c3] at H
  exact nn H
/-! ### laws_eqUint64S: function 52 -/
def laws_eqUint64S.l0 : Nat → List Int → List Int → Int → Option (Bool)
 | 0, _, _, _ => none
 | k + 1, x0, x1, x5 => if x5 < (x0.length : Int) then (if 0 ≤ x5 then (if x5 < (x1.length : Int) then (if (rd x0 x5) = (rd x1 x5) then (laws_eqUint64S.l0 k x0 x1 (wrap64 (x5 + 1))) else (none)) else (none)) else (none)) else (some true)
def laws_eqUint64S.f (k : Nat) (l0 : List Int) (l1 : List Int) : Option (Bool) := if (l0.length : Int) = (l1.length : Int) then (laws_eqUint64S.l0 k l0 l1 0) else (none)
set_option maxHeartbeats 8000000 in
set_option maxRecDepth 100000 in
theorem laws_eqUint64S.calls (k : Nat) (A0 : Option Addr) (c0 : Nat) (l0 : List Int) (A1 : Option Addr) (c1 : Nat) (l1 : List Int) (r : Bool) (w : World) (hr0 : Kd.C (Kd.int .u64) w A0 l0.length l0) (hc0 : l0.length ≤ c0) (hr1 : Kd.C (Kd.int .u64) w A1 l1.length l1) (hc1 : l1.length ≤ c1) (h : laws_eqUint64S.f k l0 l1 = some r) :
  Calls Try.prog 52 #[.slice A0 l0.length c0, .slice A1 l1.length c1] w fun e w' => e = .returned (.bool r) ∧ Drawn0 w w' := by
 have HR0:=mk0 hr0
 have HC0:=mk0 hc0
 clear hr0 hc0
 have HR1:=mk0 hr1
 have HC1:=mk0 hc1
 clear hr1 hc1
 have H:(if (l0.length:Int) = (l1.length:Int) then (laws_eqUint64S.l0 k l0 l1 0) else (none)) = some r:=h
 clear h
 by_cases c3:(l0.length:Int) = (l1.length:Int)
 ·rw [if_pos c3] at H
  have c3b0:((l0.length:Int) == (l1.length:Int)) = true:=beq_iff_eq.mpr c3
  have c3b1:((l0.length:Int) != (l1.length:Int)) = false:=bne_eq_false_iff_eq.mpr c3
  have c3b2:(l0.length == l1.length) = true:=by first|simpa using c3|(simp at c3 ⊢;omega)
  clear c3
  have H':=mk0 H
  clear H
  go_enter Try.func52,Try.ntmps52
  go_wp2
  repeat (go_quiet (fail);try go_wp2)
  go_loopg [5] k (fun kq v5 w'=>∃ (x5_1:Int),v5 = .int .i64 x5_1 ∧ Aside0 (laws_eqUint64S.l0 kq l0 l1 x5_1 = some r) ∧ Aside0 (kq ≤ k) ∧ Drawn0 w w')
  case atStart=>exact⟨(0),eS,H',⟨Nat.le_refl _⟩,by repeat (first|exact Drawn0.refl _|apply Drawn0.step)⟩
  case round =>
   clear H'
   try clear c1
   try clear p2
   try clear c3
   try clear c3b0
   try clear c3b1
   try clear c3b2
   obtain⟨x5_1,rfl,HA,HK1,⟨m1,rfl⟩⟩:=hrel
   cases gk with
   | zero=>exact absurd HA.out (by simp [laws_eqUint64S.l0])
   | succ k1 =>
    have H:=HA.out
    clear HA
    simp only [laws_eqUint64S.l0] at H
    by_cases c4:x5_1 < (l0.length:Int)
    ·rw [if_pos c4] at H
     have c4b0:decide (x5_1 < (l0.length:Int)) = true:=decide_eq_true c4
     clear c4
     by_cases c5:0 ≤ x5_1
     ·rw [if_pos c5] at H
      have c5b0:decide (0 ≤ x5_1) = true:=decide_eq_true c5
      clear c5
      by_cases c6:x5_1 < (l1.length:Int)
      ·rw [if_pos c6] at H
       have c6b0:decide (x5_1 < (l1.length:Int)) = true:=decide_eq_true c6
       clear c6
       by_cases c7:(rd l0 x5_1) = (rd l1 x5_1)
       ·rw [if_pos c7] at H
        have c7b0:((rd l0 x5_1) == (rd l1 x5_1)) = true:=beq_iff_eq.mpr c7
        have c7b1:((rd l0 x5_1) != (rd l1 x5_1)) = false:=bne_eq_false_iff_eq.mpr c7
        clear c7
        have H':=mk0 H
        clear H
        have p513:0 ≤ (x5_1:Int):=oD
        have q513:x5_1 < (l0.length:Int):=oD
        obtain⟨ad513,e513,hx513_0⟩:=Kd.at_int HR0.out x5_1 p513 q513
        cases e513
        replace p513:=eq_true p513
        replace q513:=eq_true q513
        have p514:0 ≤ (x5_1:Int):=oD
        have q514:x5_1 < (l1.length:Int):=oD
        obtain⟨ad514,e514,hx514_0⟩:=Kd.at_int HR1.out x5_1 p514 q514
        cases e514
        replace p514:=eq_true p514
        replace q514:=eq_true q514
        go_wp2
        repeat (go_quiet (fail);try go_wp2)
        go_roundg k1
        case measure=>have:=HK1.out;omega
        case rel=>exact⟨(wrap64 (x5_1 + 1)),eS,H',⟨by have:=HK1.out;omega⟩,by repeat (first|exact Drawn0.refl _|apply Drawn0.step)⟩
       ·rw [if_neg c7] at H
        exact nn H
      ·rw [if_neg c6] at H
       exact nn H
     ·rw [if_neg c5] at H
      exact nn H
    ·rw [if_neg c4] at H
     have c4b0:decide (x5_1 < (l0.length:Int)) = false:=decide_eq_false c4
     clear c4
     obtain rfl:=Option.some.inj H
     go_wp2
     repeat (go_quiet (fail);try go_wp2)
     go_ret
     exact⟨by first|rfl|(simp;done)|(simp [*];done),by repeat (first|exact Drawn0.refl _|apply Drawn0.step)⟩
 ·rw [if_neg c3] at H
  exact nn H
/-! ### laws_eqBits: function 28 -/
def laws_eqBits.f (k : Nat) (a0_0 : Int) (l0_1 : List Int) (a1_0 : Int) (l1_1 : List Int) : Option (Bool) := if a0_0 = a1_0 then ((laws_eqUint64S.f k l0_1 l1_1).bind fun t517 => (if t517 = true then (some true) else (none))) else (none)
set_option maxHeartbeats 8000000 in
set_option maxRecDepth 100000 in
theorem laws_eqBits.calls (k : Nat) (a0_0 : Int) (A0_1 : Option Addr) (c0_1 : Nat) (l0_1 : List Int) (a1_0 : Int) (A1_1 : Option Addr) (c1_1 : Nat) (l1_1 : List Int) (r : Bool) (w : World) (hr0_1 : Kd.C (Kd.int .u64) w A0_1 l0_1.length l0_1) (hc0_1 : l0_1.length ≤ c0_1) (hr1_1 : Kd.C (Kd.int .u64) w A1_1 l1_1.length l1_1) (hc1_1 : l1_1.length ≤ c1_1) (h : laws_eqBits.f k a0_0 l0_1 a1_0 l1_1 = some r) :
  Calls Try.prog 28 #[.agg #[.int .i64 a0_0, .slice A0_1 l0_1.length c0_1], .agg #[.int .i64 a1_0, .slice A1_1 l1_1.length c1_1]] w fun e w' => e = .returned (.bool r) ∧ Below w.heap.size w w' := by
 have hu29:=Try.underlying29
 have HR0_1:=mk0 hr0_1
 have HC0_1:=mk0 hc0_1
 clear hr0_1 hc0_1
 have HR1_1:=mk0 hr1_1
 have HC1_1:=mk0 hc1_1
 clear hr1_1 hc1_1
 have HB:=mk0 (Below.refl w.heap.size w)
 have H:(if a0_0 = a1_0 then ((laws_eqUint64S.f k l0_1 l1_1).bind fun t517=>(if t517 = true then (some true) else (none))) else (none)) = some r:=h
 clear h
 by_cases c3:a0_0 = a1_0
 ·rw [if_pos c3] at H
  have c3b0:(a0_0 == a1_0) = true:=beq_iff_eq.mpr c3
  have c3b1:(a0_0 != a1_0) = false:=bne_eq_false_iff_eq.mpr c3
  clear c3
  replace H:=bE H
  obtain⟨t517,A4,H⟩:=H
  by_cases c5:t517 = true
  ·subst c5
   replace H:=iT H
   obtain rfl:=Option.some.inj H
   go_enter Try.func28,Try.ntmps28
   go_wp2_with (first|((with_reducible refine gate_dst (N:=2) rfl ?_);refine box_event ?hg (N:=2) ?hd (cs:=#[.int .i64 a0_0,.slice A0_1 l0_1.length c0_1]) (t:=29) ?hr ?_;(case hd=>rfl);(case hg=>rfl);(case hr=>first|(go_simp;done)|(go_simp;rfl));intro gb515 hg w6 hbox hb;have BK515:=mk0 (hbox);have GW515:=mk0 ((by rw [hg];exact (kZ HB.out):w.heap.size ≤ gb515));have GE515:=mk0 ((by rw [hg];exact (kZ HB.out):w.heap.size ≤ gb515));replace HB:=mk0 (kS HB.out hb);clear hb hbox hg)|((with_reducible refine gate_dst (N:=3) rfl ?_);refine box_event ?hg (N:=3) ?hd (cs:=#[.int .i64 a1_0,.slice A1_1 l1_1.length c1_1]) (t:=29) ?hr ?_;(case hd=>rfl);(case hg=>rfl);(case hr=>first|(go_simp;done)|(go_simp;rfl));intro gb516 hg w7 hbox hb;have BK516:=mk0 (hbox);have GW516:=mk0 ((by rw [hg];exact (kZ HB.out):w.heap.size ≤ gb516));have GE516:=mk0 ((by rw [hg];exact (kZ HB.out):w.heap.size ≤ gb516));replace HB:=mk0 (kS HB.out hb);have NB515_516:=mk0 ((by rw [hg];exact Nat.ne_of_lt (kL BK515.out):gb515 ≠ gb516));have NB516_515:=mk0 ((by rw [hg];exact Nat.ne_of_gt (kL BK515.out):gb516 ≠ gb515));replace BK515:=mk0 (kK BK515.out hb);clear hb hbox hg;have hnb8:=NB515_516.out;have hnc8:=NB516_515.out;obtain⟨hcz9_0,hcz9_1,hfz9_0,hfz9_1⟩:=cz2 BK515.out;obtain⟨hcz10_0,hcz10_1,hfz10_0,hfz10_1⟩:=cz2 BK516.out)|((with_reducible refine gate_callee (f:=52) rfl ?_);refine gL (some 14) Try.func52 #[.slice A0_1 l0_1.length c0_1,.slice A1_1 l1_1.length c1_1] ?_;(with_reducible refine (laws_eqUint64S.calls k _ _ l0_1 _ _ l1_1 true _ ?side1 ?side2 ?side3 ?side4 A4.out).mono ?_);(case side1=>exact kC (Kd.C_below HR0_1.out HB.out));(case side2=>exact HC0_1.out);(case side3=>exact kC (Kd.C_below HR1_1.out HB.out));(case side4=>exact HC1_1.out);rintro e w' ⟨rfl,⟨nd,rfl⟩⟩;refine⟨_,rfl,?_⟩))
   go_ret
   exact⟨eR,kB HB.out⟩
  ·replace c5:=Bool.eq_false_iff.mpr c5
   subst c5
   replace H:=iF H
   exact nn H
 ·rw [if_neg c3] at H
  exact nn H
/-! ### laws_eqBitsS: function 51 -/
def laws_eqBitsS.l0 : Nat → List (S29) → List (S29) → Int → Option (Bool)
 | 0, _, _, _ => none
 | k + 1, x0, x1, x5 => if x5 < (x0.length : Int) then (if 0 ≤ x5 then (if x5 < (x1.length : Int) then ((laws_eqBits.f k ((rd_T29 x0 x5).f0) ((rd_T29 x0 x5).f1) ((rd_T29 x1 x5).f0) ((rd_T29 x1 x5).f1)).bind fun t520 => (if t520 = true then (laws_eqBitsS.l0 k x0 x1 (wrap64 (x5 + 1))) else (none))) else (none)) else (none)) else (some true)
def laws_eqBitsS.f (k : Nat) (l0 : List (S29)) (l1 : List (S29)) : Option (Bool) := if (l0.length : Int) = (l1.length : Int) then (laws_eqBitsS.l0 k l0 l1 0) else (none)
def laws_eqBitsS.T6 : Bool × List (List Nat × List Nat) := (true, [([], []), ([], []), ([0, 1], [0, 1]), ([2], [2]), ([], []), ([], []), ([4, 5], [4, 5]), ([6], [6]), ([3, 7], [3, 7]), ([8], [8])])
def laws_eqBitsS.B6 : List Nat := [0, 0, 3, 7, 0, 0, 48, 112, 255, 511]
theorem laws_eqBitsS.tab6 : rtab .any (opsOf Try.f51 6) = laws_eqBitsS.T6 := by kernel_rfl
theorem laws_eqBitsS.bits6 : waitsOk laws_eqBitsS.T6.2 laws_eqBitsS.B6 = true := by kernel_rfl
set_option maxHeartbeats 8000000 in
set_option maxRecDepth 100000 in
theorem laws_eqBitsS.calls (k : Nat) (A0 : Option Addr) (c0 : Nat) (l0 : List (S29)) (A1 : Option Addr) (c1 : Nat) (l1 : List (S29)) (r : Bool) (w : World) (hr0 : Kd.C k29 w A0 l0.length l0) (hc0 : l0.length ≤ c0) (hr1 : Kd.C k29 w A1 l1.length l1) (hc1 : l1.length ≤ c1) (h : laws_eqBitsS.f k l0 l1 = some r) :
  Calls Try.prog 51 #[.slice A0 l0.length c0, .slice A1 l1.length c1] w fun e w' => e = .returned (.bool r) ∧ Below w.heap.size w w' := by
 have hu29:=Try.underlying29
 have HR0:=mk0 hr0
 have HC0:=mk0 hc0
 clear hr0 hc0
 have HR1:=mk0 hr1
 have HC1:=mk0 hc1
 clear hr1 hc1
 have HB:=mk0 (Below.refl w.heap.size w)
 have H:(if (l0.length:Int) = (l1.length:Int) then (laws_eqBitsS.l0 k l0 l1 0) else (none)) = some r:=h
 clear h
 by_cases c3:(l0.length:Int) = (l1.length:Int)
 ·rw [if_pos c3] at H
  have c3b0:((l0.length:Int) == (l1.length:Int)) = true:=beq_iff_eq.mpr c3
  (try simp only [hl518_1] at c3b0)
  (try simp only [hl519_1] at c3b0)
  have c3b1:((l0.length:Int) != (l1.length:Int)) = false:=bne_eq_false_iff_eq.mpr c3
  (try simp only [hl518_1] at c3b1)
  (try simp only [hl519_1] at c3b1)
  have c3b2:(l0.length == l1.length) = true:=by first|simpa using c3|(simp at c3 ⊢;omega)
  (try simp only [hl518_1] at c3b2)
  (try simp only [hl519_1] at c3b2)
  clear c3
  have H':=mk0 H
  clear H
  go_enter Try.func51,Try.ntmps51
  go_wp2
  go_loopg [5] k (fun kq v5 w'=>∃ (x5_1:Int),v5 = .int .i64 x5_1 ∧ Aside0 (laws_eqBitsS.l0 kq l0 l1 x5_1 = some r) ∧ Aside0 (kq ≤ k) ∧ Aside0 (Below w.heap.size w w'))
  case atStart=>exact⟨(0),eS,H',⟨Nat.le_refl _⟩,⟨kB HB.out⟩⟩
  case round =>
   clear H'
   try clear c1
   try clear p2
   try clear c3
   try clear c3b0
   try clear c3b1
   try clear c3b2
   obtain⟨x5_1,rfl,HA,HK1,HB⟩:=hrel
   cases gk with
   | zero=>exact absurd HA.out (by simp [laws_eqBitsS.l0])
   | succ k1 =>
    have H:=HA.out
    clear HA
    simp only [laws_eqBitsS.l0] at H
    by_cases c4:x5_1 < (l0.length:Int)
    ·rw [if_pos c4] at H
     have c4b0:decide (x5_1 < (l0.length:Int)) = true:=decide_eq_true c4
     (try simp only [hl518_1] at c4b0)
     (try simp only [hl519_1] at c4b0)
     clear c4
     by_cases c5:0 ≤ x5_1
     ·rw [if_pos c5] at H
      have c5b0:decide (0 ≤ x5_1) = true:=decide_eq_true c5
      clear c5
      by_cases c6:x5_1 < (l1.length:Int)
      ·rw [if_pos c6] at H
       have c6b0:decide (x5_1 < (l1.length:Int)) = true:=decide_eq_true c6
       (try simp only [hl518_1] at c6b0)
       (try simp only [hl519_1] at c6b0)
       clear c6
       replace H:=bE H
       obtain⟨t520,A7,H⟩:=H
       by_cases c8:t520 = true
       ·subst c8
        replace H:=iT H
        have H':=mk0 H
        clear H
        try go_wp2
        replace HB:=mk0 (dZ HB.out)
        have p518:0 ≤ (x5_1:Int):=oD
        have q518:x5_1 < (l0.length:Int):=oD
        obtain⟨ad518,A518_1,c518_1,e518,hx518_0,hx518_1,hl518_1,hi518_1⟩:=at_T29 HR0.out x5_1 p518 q518
        have hw518_1:=hx518_1
        have hw518_0:=hx518_0
        cases e518
        replace hx518_0:=(HB.out.cell (World.block_lt_of_cell? w _ hx518_0)).trans hx518_0
        replace hx518_1:=(HB.out.cell (World.block_lt_of_cell? w _ hx518_1)).trans hx518_1
        have HR518_1:=mk0 hi518_1
        have HC518_1:=mk0 hl518_1
        clear hi518_1 hl518_1
        replace p518:=eq_true p518
        replace q518:=eq_true q518
        have p519:0 ≤ (x5_1:Int):=oD
        have q519:x5_1 < (l1.length:Int):=oD
        obtain⟨ad519,A519_1,c519_1,e519,hx519_0,hx519_1,hl519_1,hi519_1⟩:=at_T29 HR1.out x5_1 p519 q519
        have hw519_1:=hx519_1
        have hw519_0:=hx519_0
        cases e519
        replace hx519_0:=(HB.out.cell (World.block_lt_of_cell? w _ hx519_0)).trans hx519_0
        replace hx519_1:=(HB.out.cell (World.block_lt_of_cell? w _ hx519_1)).trans hx519_1
        have HR519_1:=mk0 hi519_1
        have HC519_1:=mk0 hl519_1
        clear hi519_1 hl519_1
        replace p519:=eq_true p519
        replace q519:=eq_true q519
        refine start_ (n:=10) (S:=fun w'=>w'.cell? (ad518.add ((x5_1).toNat * 2)) = some (.int .i64 ((rd_T29 l0 x5_1).f0)) ∧ w'.cell? ⟨(ad518.add ((x5_1).toNat * 2)).block,(ad518.add ((x5_1).toNat * 2)).off + 1,none⟩ = some (.slice A518_1 ((rd_T29 l0 x5_1).f1).length c518_1) ∧ w'.cell? (ad519.add ((x5_1).toNat * 2)) = some (.int .i64 ((rd_T29 l1 x5_1).f0)) ∧ w'.cell? ⟨(ad519.add ((x5_1).toNat * 2)).block,(ad519.add ((x5_1).toNat * 2)).off + 1,none⟩ = some (.slice A519_1 ((rd_T29 l1 x5_1).f1).length c519_1)) (ds:=[]) (bm 10 0) (by kernel_rfl) rfl (by kernel_rfl) ⟨((HB.out.cell (World.block_lt_of_cell? w _ hw518_0)).trans hw518_0),((HB.out.cell (World.block_lt_of_cell? w _ hw518_1)).trans hw518_1),((HB.out.cell (World.block_lt_of_cell? w _ hw519_0)).trans hw519_0),((HB.out.cell (World.block_lt_of_cell? w _ hw519_1)).trans hw519_1)⟩ (fun hHeld=>?_);refine with_tabW laws_eqBitsS.tab6 laws_eqBitsS.bits6 (fun HT_ HW_=>?_)
        generalize wr.drew = w9 at HB HR518_1 HR519_1 hx518_0 hx518_1 hx519_0 hx519_1 hHeld ⊢
        refine pU 0 (some 17) (bm 10 1) HT_ ?_
        refine pU 1 (some 18) (bm 10 3) HT_ ?_
        refine pU 2 (some 19) (bm 10 7) HT_ ?_
        refine pU 4 (some 21) (bm 10 23) HT_ ?_
        refine pU 5 (some 22) (bm 10 55) HT_ ?_
        refine pU 6 (some 23) (bm 10 119) HT_ ?_
        refine pT 3 (some 20) (bm 10 127) HT_ HW_ hHeld ?_
        refine pT 7 (some 24) (bm 10 255) HT_ HW_ hHeld ?_
        refine pO 8 (some 25) (bm 10 511) HT_ (fun K hK=>?_)
        refine gO Try.func28 #[.agg #[.int .i64 ((rd_T29 l0 x5_1).f0),.slice A518_1 ((rd_T29 l0 x5_1).f1).length c518_1],.agg #[.int .i64 ((rd_T29 l1 x5_1).f0),.slice A519_1 ((rd_T29 l1 x5_1).f1).length c519_1]] ?_
        with_reducible refine (laws_eqBits.calls k1 ((rd_T29 l0 x5_1).f0) _ _ ((rd_T29 l0 x5_1).f1) ((rd_T29 l1 x5_1).f0) _ _ ((rd_T29 l1 x5_1).f1) true _ ?side1 ?side2 ?side3 ?side4 A7.out).mono ?_
        (case side1=>exact kC (Kd.C_below HR518_1.out HB.out))
        (case side2=>exact HC518_1.out)
        (case side3=>exact kC (Kd.C_below HR519_1.out HB.out))
        (case side4=>exact HC519_1.out)
        rintro e w10 ⟨rfl,hb⟩
        refine⟨_,rfl,?_⟩
        replace HB:=mk0 (kS HB.out hb)
        (try clear hb)
        refine hK.out _ _ ⟨((HB.out.cell (World.block_lt_of_cell? w _ hw518_0)).trans hw518_0),((HB.out.cell (World.block_lt_of_cell? w _ hw518_1)).trans hw518_1),((HB.out.cell (World.block_lt_of_cell? w _ hw519_0)).trans hw519_0),((HB.out.cell (World.block_lt_of_cell? w _ hw519_1)).trans hw519_1)⟩ (fun hHeld=>?_)
        clear hK K
        refine pN (some 25) ?_
        refine pU 9 (some 26) (bm 10 1023) HT_ ?_
        refine pD HT_ ?_
        try go_wp2
        go_roundg k1
        case measure=>have:=HK1.out;omega
        case rel=>exact⟨(wrap64 (x5_1 + 1)),eS,H',⟨by have:=HK1.out;omega⟩,⟨kB HB.out⟩⟩
       ·replace c8:=Bool.eq_false_iff.mpr c8
        subst c8
        replace H:=iF H
        exact nn H
      ·rw [if_neg c6] at H
       exact nn H
     ·rw [if_neg c5] at H
      exact nn H
    ·rw [if_neg c4] at H
     have c4b0:decide (x5_1 < (l0.length:Int)) = false:=decide_eq_false c4
     (try simp only [hl518_1] at c4b0)
     (try simp only [hl519_1] at c4b0)
     clear c4
     obtain rfl:=Option.some.inj H
     go_wp2
     go_ret
     exact⟨eR,kB HB.out⟩
 ·rw [if_neg c3] at H
  exact nn H
/-! ### laws_eqWave: function 26 -/
def laws_eqWave.f (k : Nat) (a0_0 : Int) (l0_1 : List Int) (l0_2 : List (S29)) (a1_0 : Int) (l1_1 : List Int) (l1_2 : List (S29)) : Option (Bool) := if a0_0 = a1_0 then ((laws_eqIntS.f k l0_1 l1_1).bind fun t523 => (if t523 = true then ((laws_eqBitsS.f k l0_2 l1_2).bind fun t524 => (if t524 = true then (some true) else (none))) else (none))) else (none)
set_option maxHeartbeats 8000000 in
set_option maxRecDepth 100000 in
theorem laws_eqWave.calls (k : Nat) (a0_0 : Int) (A0_1 : Option Addr) (c0_1 : Nat) (l0_1 : List Int) (A0_2 : Option Addr) (c0_2 : Nat) (l0_2 : List (S29)) (a1_0 : Int) (A1_1 : Option Addr) (c1_1 : Nat) (l1_1 : List Int) (A1_2 : Option Addr) (c1_2 : Nat) (l1_2 : List (S29)) (r : Bool) (w : World) (hr0_1 : Kd.C (Kd.int .i64) w A0_1 l0_1.length l0_1) (hc0_1 : l0_1.length ≤ c0_1) (hr0_2 : Kd.C k29 w A0_2 l0_2.length l0_2) (hc0_2 : l0_2.length ≤ c0_2) (hr1_1 : Kd.C (Kd.int .i64) w A1_1 l1_1.length l1_1) (hc1_1 : l1_1.length ≤ c1_1) (hr1_2 : Kd.C k29 w A1_2 l1_2.length l1_2) (hc1_2 : l1_2.length ≤ c1_2) (h : laws_eqWave.f k a0_0 l0_1 l0_2 a1_0 l1_1 l1_2 = some r) :
  Calls Try.prog 26 #[.agg #[.int .i64 a0_0, .slice A0_1 l0_1.length c0_1, .slice A0_2 l0_2.length c0_2], .agg #[.int .i64 a1_0, .slice A1_1 l1_1.length c1_1, .slice A1_2 l1_2.length c1_2]] w fun e w' => e = .returned (.bool r) ∧ Below w.heap.size w w' := by
 have hu26:=Try.underlying26
 have HR0_1:=mk0 hr0_1
 have HC0_1:=mk0 hc0_1
 clear hr0_1 hc0_1
 have HR0_2:=mk0 hr0_2
 have HC0_2:=mk0 hc0_2
 clear hr0_2 hc0_2
 have HR1_1:=mk0 hr1_1
 have HC1_1:=mk0 hc1_1
 clear hr1_1 hc1_1
 have HR1_2:=mk0 hr1_2
 have HC1_2:=mk0 hc1_2
 clear hr1_2 hc1_2
 have HB:=mk0 (Below.refl w.heap.size w)
 have H:(if a0_0 = a1_0 then ((laws_eqIntS.f k l0_1 l1_1).bind fun t523=>(if t523 = true then ((laws_eqBitsS.f k l0_2 l1_2).bind fun t524=>(if t524 = true then (some true) else (none))) else (none))) else (none)) = some r:=h
 clear h
 by_cases c3:a0_0 = a1_0
 ·rw [if_pos c3] at H
  have c3b0:(a0_0 == a1_0) = true:=beq_iff_eq.mpr c3
  have c3b1:(a0_0 != a1_0) = false:=bne_eq_false_iff_eq.mpr c3
  clear c3
  replace H:=bE H
  obtain⟨t523,A4,H⟩:=H
  by_cases c5:t523 = true
  ·subst c5
   replace H:=iT H
   replace H:=bE H
   obtain⟨t524,A6,H⟩:=H
   by_cases c7:t524 = true
   ·subst c7
    replace H:=iT H
    obtain rfl:=Option.some.inj H
    go_enter Try.func26,Try.ntmps26
    go_wp2_with (first|((with_reducible refine gate_dst (N:=2) rfl ?_);refine box_event ?hg (N:=2) ?hd (cs:=#[.int .i64 a0_0,.slice A0_1 l0_1.length c0_1,.slice A0_2 l0_2.length c0_2]) (t:=26) ?hr ?_;(case hd=>rfl);(case hg=>rfl);(case hr=>first|(go_simp;done)|(go_simp;rfl));intro gb521 hg w8 hbox hb;have BK521:=mk0 (hbox);have GW521:=mk0 ((by rw [hg];exact (kZ HB.out):w.heap.size ≤ gb521));have GE521:=mk0 ((by rw [hg];exact (kZ HB.out):w.heap.size ≤ gb521));replace HB:=mk0 (kS HB.out hb);clear hb hbox hg)|((with_reducible refine gate_dst (N:=3) rfl ?_);refine box_event ?hg (N:=3) ?hd (cs:=#[.int .i64 a1_0,.slice A1_1 l1_1.length c1_1,.slice A1_2 l1_2.length c1_2]) (t:=26) ?hr ?_;(case hd=>rfl);(case hg=>rfl);(case hr=>first|(go_simp;done)|(go_simp;rfl));intro gb522 hg w9 hbox hb;have BK522:=mk0 (hbox);have GW522:=mk0 ((by rw [hg];exact (kZ HB.out):w.heap.size ≤ gb522));have GE522:=mk0 ((by rw [hg];exact (kZ HB.out):w.heap.size ≤ gb522));replace HB:=mk0 (kS HB.out hb);have NB521_522:=mk0 ((by rw [hg];exact Nat.ne_of_lt (kL BK521.out):gb521 ≠ gb522));have NB522_521:=mk0 ((by rw [hg];exact Nat.ne_of_gt (kL BK521.out):gb522 ≠ gb521));replace BK521:=mk0 (kK BK521.out hb);clear hb hbox hg;have hnb10:=NB521_522.out;have hnc10:=NB522_521.out;obtain⟨hcz11_0,hcz11_1,hcz11_2,hfz11_0,hfz11_1,hfz11_2⟩:=cz3 BK521.out;obtain⟨hcz12_0,hcz12_1,hcz12_2,hfz12_0,hfz12_1,hfz12_2⟩:=cz3 BK522.out)|((with_reducible refine gate_callee (f:=27) rfl ?_);refine gL (some 14) Try.func27 #[.slice A0_1 l0_1.length c0_1,.slice A1_1 l1_1.length c1_1] ?_;(with_reducible refine (laws_eqIntS.calls k _ _ l0_1 _ _ l1_1 true _ ?side1 ?side2 ?side3 ?side4 A4.out).mono ?_);(case side1=>exact kC (Kd.C_below HR0_1.out HB.out));(case side2=>exact HC0_1.out);(case side3=>exact kC (Kd.C_below HR1_1.out HB.out));(case side4=>exact HC1_1.out);rintro e w' ⟨rfl,⟨nd,rfl⟩⟩;refine⟨_,rfl,?_⟩)|((with_reducible refine gate_callee (f:=51) rfl ?_);refine gL (some 20) Try.func51 #[.slice A0_2 l0_2.length c0_2,.slice A1_2 l1_2.length c1_2] ?_;(with_reducible refine (laws_eqBitsS.calls k _ _ l0_2 _ _ l1_2 true _ ?side1 ?side2 ?side3 ?side4 A6.out).mono ?_);(case side1=>repeat (first|exact (Kd.C_below HR0_2.out (kB HB.out))|(with_reducible first|apply aC|apply nC|apply dC)));(case side2=>exact HC0_2.out);(case side3=>repeat (first|exact (Kd.C_below HR1_2.out (kB HB.out))|(with_reducible first|apply aC|apply nC|apply dC)));(case side4=>exact HC1_2.out);rintro e w13 ⟨rfl,hb⟩;refine⟨_,rfl,?_⟩;replace BK521:=mk0 (kK BK521.out hb);replace BK522:=mk0 (kK BK522.out hb);replace HB:=mk0 (kS HB.out hb);(try clear hb)))
    go_ret
    exact⟨eR,kB HB.out⟩
   ·replace c7:=Bool.eq_false_iff.mpr c7
    subst c7
    replace H:=iF H
    exact nn H
  ·replace c5:=Bool.eq_false_iff.mpr c5
   subst c5
   replace H:=iF H
   exact nn H
 ·rw [if_neg c3] at H
  exact nn H
/-! ### laws_eqPacked: function 29 -/
def laws_eqPacked.f (k : Nat) (a0_0 : Int) (a0_1 : Int) (a0_2 : Int) (l0_3 : List Int) (a1_0 : Int) (a1_1 : Int) (a1_2 : Int) (l1_3 : List Int) : Option (Bool) := if a0_0 = a1_0 then (if a0_1 = a1_1 then ((laws_eqBits.f k a0_2 l0_3 a1_2 l1_3).bind fun t527 => (if t527 = true then (some true) else (none))) else (none)) else (none)
set_option maxHeartbeats 8000000 in
set_option maxRecDepth 100000 in
theorem laws_eqPacked.calls (k : Nat) (a0_0 : Int) (a0_1 : Int) (a0_2 : Int) (A0_3 : Option Addr) (c0_3 : Nat) (l0_3 : List Int) (a1_0 : Int) (a1_1 : Int) (a1_2 : Int) (A1_3 : Option Addr) (c1_3 : Nat) (l1_3 : List Int) (r : Bool) (w : World) (hr0_3 : Kd.C (Kd.int .u64) w A0_3 l0_3.length l0_3) (hc0_3 : l0_3.length ≤ c0_3) (hr1_3 : Kd.C (Kd.int .u64) w A1_3 l1_3.length l1_3) (hc1_3 : l1_3.length ≤ c1_3) (h : laws_eqPacked.f k a0_0 a0_1 a0_2 l0_3 a1_0 a1_1 a1_2 l1_3 = some r) :
  Calls Try.prog 29 #[.agg #[.int .i64 a0_0, .int .i64 a0_1, .int .i64 a0_2, .slice A0_3 l0_3.length c0_3], .agg #[.int .i64 a1_0, .int .i64 a1_1, .int .i64 a1_2, .slice A1_3 l1_3.length c1_3]] w fun e w' => e = .returned (.bool r) ∧ Below w.heap.size w w' := by
 have hu31:=Try.underlying31
 have hu29:=Try.underlying29
 have HR0_3:=mk0 hr0_3
 have HC0_3:=mk0 hc0_3
 clear hr0_3 hc0_3
 have HR1_3:=mk0 hr1_3
 have HC1_3:=mk0 hc1_3
 clear hr1_3 hc1_3
 have HB:=mk0 (Below.refl w.heap.size w)
 have H:(if a0_0 = a1_0 then (if a0_1 = a1_1 then ((laws_eqBits.f k a0_2 l0_3 a1_2 l1_3).bind fun t527=>(if t527 = true then (some true) else (none))) else (none)) else (none)) = some r:=h
 clear h
 by_cases c3:a0_0 = a1_0
 ·rw [if_pos c3] at H
  have c3b0:(a0_0 == a1_0) = true:=beq_iff_eq.mpr c3
  have c3b1:(a0_0 != a1_0) = false:=bne_eq_false_iff_eq.mpr c3
  clear c3
  by_cases c4:a0_1 = a1_1
  ·rw [if_pos c4] at H
   have c4b0:(a0_1 == a1_1) = true:=beq_iff_eq.mpr c4
   have c4b1:(a0_1 != a1_1) = false:=bne_eq_false_iff_eq.mpr c4
   clear c4
   replace H:=bE H
   obtain⟨t527,A5,H⟩:=H
   by_cases c6:t527 = true
   ·subst c6
    replace H:=iT H
    obtain rfl:=Option.some.inj H
    go_enter Try.func29,Try.ntmps29
    go_wp2_with (first|((with_reducible refine gate_dst (N:=2) rfl ?_);refine box_event ?hg (N:=2) ?hd (cs:=#[.int .i64 a0_0,.int .i64 a0_1,.int .i64 a0_2,.slice A0_3 l0_3.length c0_3]) (t:=31) ?hr ?_;(case hd=>rfl);(case hg=>rfl);(case hr=>first|(go_simp;done)|(go_simp;rfl));intro gb525 hg w7 hbox hb;have BK525:=mk0 (hbox);have GW525:=mk0 ((by rw [hg];exact (kZ HB.out):w.heap.size ≤ gb525));have GE525:=mk0 ((by rw [hg];exact (kZ HB.out):w.heap.size ≤ gb525));replace HB:=mk0 (kS HB.out hb);clear hb hbox hg)|((with_reducible refine gate_dst (N:=3) rfl ?_);refine box_event ?hg (N:=3) ?hd (cs:=#[.int .i64 a1_0,.int .i64 a1_1,.int .i64 a1_2,.slice A1_3 l1_3.length c1_3]) (t:=31) ?hr ?_;(case hd=>rfl);(case hg=>rfl);(case hr=>first|(go_simp;done)|(go_simp;rfl));intro gb526 hg w8 hbox hb;have BK526:=mk0 (hbox);have GW526:=mk0 ((by rw [hg];exact (kZ HB.out):w.heap.size ≤ gb526));have GE526:=mk0 ((by rw [hg];exact (kZ HB.out):w.heap.size ≤ gb526));replace HB:=mk0 (kS HB.out hb);have NB525_526:=mk0 ((by rw [hg];exact Nat.ne_of_lt (kL BK525.out):gb525 ≠ gb526));have NB526_525:=mk0 ((by rw [hg];exact Nat.ne_of_gt (kL BK525.out):gb526 ≠ gb525));replace BK525:=mk0 (kK BK525.out hb);clear hb hbox hg;have hnb9:=NB525_526.out;have hnc9:=NB526_525.out;obtain⟨hcz10_0,hcz10_1,hcz10_2,hcz10_3,hfz10_0,hfz10_1,hfz10_2,hfz10_3⟩:=cz4 BK525.out;obtain⟨hcz11_0,hcz11_1,hcz11_2,hcz11_3,hfz11_0,hfz11_1,hfz11_2,hfz11_3⟩:=cz4 BK526.out)|((with_reducible refine gate_callee (f:=28) rfl ?_);refine gL (some 19) Try.func28 #[.agg #[.int .i64 a0_2,.slice A0_3 l0_3.length c0_3],.agg #[.int .i64 a1_2,.slice A1_3 l1_3.length c1_3]] ?_;(with_reducible refine (laws_eqBits.calls k a0_2 _ _ l0_3 a1_2 _ _ l1_3 true _ ?side1 ?side2 ?side3 ?side4 A5.out).mono ?_);(case side1=>exact kC (Kd.C_below HR0_3.out HB.out));(case side2=>exact HC0_3.out);(case side3=>exact kC (Kd.C_below HR1_3.out HB.out));(case side4=>exact HC1_3.out);rintro e w12 ⟨rfl,hb⟩;refine⟨_,rfl,?_⟩;replace BK525:=mk0 (kK BK525.out hb);replace BK526:=mk0 (kK BK526.out hb);replace HB:=mk0 (kS HB.out hb);(try clear hb)))
    go_ret
    exact⟨eR,kB HB.out⟩
   ·replace c6:=Bool.eq_false_iff.mpr c6
    subst c6
    replace H:=iF H
    exact nn H
  ·rw [if_neg c4] at H
   exact nn H
 ·rw [if_neg c3] at H
  exact nn H
end Go.Proofs.Ytjfoaiabbmkdpaa.QFnExactFmOf
