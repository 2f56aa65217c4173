-- A walk, made by walk.py, a program of this session's.
import Derived.Test.YtoinagnieobbpaaQFnExactStretchUpx0
import Derived.Test.YtoinagnieobbpaaQFnExactStretchUpx2
import Derived.Test.YtoinagnieobbpaaQFnExactStretchUpx7
import Derived.Test.YtoinagnieobbpaaQFnExactStretchUpx11
namespace Go.Proofs.Ytoinagnieobbpaa.QFnExactStretchUp
open Go.RowKit Go.Proofs.YtoinagnieobbpaaW.PrintWords Go.Proofs.YtoinagnieobbpaaW.PrintLast Go.Proofs.YtoinagnieobbpaaW.PrintMore
attribute [local go_sem] max2_int min2_int max_two min_two max_three min_three max_four min_four   -- for this text's walks alone
set_option linter.unusedVariables false
set_option linter.unusedSimpArgs false

/-! ### laws_FnExactStretchUp: function 8 -/
def laws_FnExactStretchUp.j0 : Nat → List Int → List Int → Bool → Option (Bool)
 | 0, _, _, _ => none
 | k + 1, x0, x7, x38 => if x38 = true then (some false) else ((laws_toByteS.f k x0).bind fun t332 => ((laws_eqByteS.f k x7 t332).bind fun t335 => (if t335 = true then (some true) else (some false))))
def laws_FnExactStretchUp.f (k : Nat) (l0 : List Int) (a1_0 : Int) (a1_1 : Int) (a1_2 : Int) : Option (Bool) := if (l0.length : Int) > 1048576 then (some true) else ((laws_toByteS.f k l0).bind fun t309 => ((laws_toStretch.f a1_0 a1_1 a1_2).bind fun bt312 => ((spec_StretchUp.f k t309 bt312.1 bt312.2.1 bt312.2.2).bind fun bt315 => ((laws_toByteS.f k l0).bind fun t320 => ((laws_toStretch.f a1_0 a1_1 a1_2).bind fun bt323 => ((impl_StretchUp.f k t320 bt323.1 bt323.2.1 bt323.2.2).bind fun bt326 => ((laws_eqStretch.f bt326.1 bt326.2.1 bt326.2.2.1 bt315.1 bt315.2.1 bt315.2.2.1).bind fun t331 => (if t331 = true then (laws_FnExactStretchUp.j0 k l0 t320 (bt326.2.2.2 != bt315.2.2.2)) else (laws_FnExactStretchUp.j0 k l0 t320 true)))))))))
theorem laws_FnExactStretchUp.mono_l : ∀ k, (∀ y0 y1 y2, LeO (laws_FnExactStretchUp.j0 k y0 y1 y2) (laws_FnExactStretchUp.j0 (k + 1) y0 y1 y2))
 | 0 => fun _ _ _ r h => by simp [laws_FnExactStretchUp.j0] at h
 | k + 1 => by
  have ih0 := laws_FnExactStretchUp.mono_l k
  ·intro y0 y1 y2
   unfold laws_FnExactStretchUp.j0
   repeat' first|(with_reducible first|exact ih0 _ _ _|exact impl_StretchUp.mono _ _ _ _ _|exact laws_eqByteS.mono _ _ _|exact laws_toByteS.mono _ _|exact spec_StretchUp.mono _ _ _ _ _|exact LeO.refl _|exact LeO.none _|refine LeO.ite ?_ ?_|refine LeO.bind ?_ (fun _ => ?_))|exact LeO.none _|refine LeO.ite ?_ ?_|refine LeO.bind ?_ (fun _ => ?_)
theorem laws_FnExactStretchUp.mono : ∀ a0 a1 a2 a3 k, LeO (laws_FnExactStretchUp.f k a0 a1 a2 a3) (laws_FnExactStretchUp.f (k + 1) a0 a1 a2 a3) := by
 intro a0 a1 a2 a3 k
 have ih0 := laws_FnExactStretchUp.mono_l k
 unfold laws_FnExactStretchUp.f
 repeat' first|(with_reducible first|exact ih0 _ _ _|exact impl_StretchUp.mono _ _ _ _ _|exact laws_eqByteS.mono _ _ _|exact laws_toByteS.mono _ _|exact spec_StretchUp.mono _ _ _ _ _|exact LeO.refl _|exact LeO.none _|refine LeO.ite ?_ ?_|refine LeO.bind ?_ (fun _ => ?_))|exact LeO.none _|refine LeO.ite ?_ ?_|refine LeO.bind ?_ (fun _ => ?_)
def laws_FnExactStretchUp.T3 : Bool × List (List Nat × List Nat) := (true, [([], []), ([0], [0]), ([], []), ([2, 1], [2]), ([1, 3, 3], [1, 3]), ([4], [4]), ([5], [5]), ([5], [5]), ([], []), ([8, 6, 4, 0, 1, 2, 3, 4, 5, 6, 8], [6, 8]), ([7, 9, 0, 1, 2, 3, 4, 5, 6, 7, 8, 9], [7])])
def laws_FnExactStretchUp.B3 : List Nat := [0, 1, 0, 7, 15, 31, 63, 63, 0, 383, 1023]
theorem laws_FnExactStretchUp.tab3 : rtab .any (opsOf Try.f8 3) = laws_FnExactStretchUp.T3 := by kernel_rfl
theorem laws_FnExactStretchUp.bits3 : waitsOk laws_FnExactStretchUp.T3.2 laws_FnExactStretchUp.B3 = true := by kernel_rfl
abbrev laws_FnExactStretchUp.m0 : Array Bool := #[F,F,F,F,F,F,F,F,F,F,F]
abbrev laws_FnExactStretchUp.m1 : Array Bool := #[T,F,F,F,F,F,F,F,F,F,F]
abbrev laws_FnExactStretchUp.m2 : Array Bool := #[T,F,T,F,F,F,F,F,F,F,F]
abbrev laws_FnExactStretchUp.m3 : Array Bool := #[T,T,T,T,T,T,T,T,T,F,F]
abbrev laws_FnExactStretchUp.m4 : Array Bool := #[T,T,T,F,F,F,F,F,F,F,F]
abbrev laws_FnExactStretchUp.m5 : Array Bool := #[T,F,T,F,F,F,F,F,T,F,F]
abbrev laws_FnExactStretchUp.m6 : Array Bool := #[T,T,T,T,F,F,F,F,F,F,F]
abbrev laws_FnExactStretchUp.m7 : Array Bool := #[T,T,T,F,F,F,F,F,T,F,F]
abbrev laws_FnExactStretchUp.m8 : Array Bool := #[T,T,T,T,T,F,F,F,F,F,F]
abbrev laws_FnExactStretchUp.m9 : Array Bool := #[T,T,T,T,F,F,F,F,T,F,F]
abbrev laws_FnExactStretchUp.m10 : Array Bool := #[T,T,T,T,T,T,F,F,F,F,F]
abbrev laws_FnExactStretchUp.m11 : Array Bool := #[T,T,T,T,T,T,T,F,F,F,F]
abbrev laws_FnExactStretchUp.m12 : Array Bool := #[T,T,T,T,T,T,T,T,F,F,F]
abbrev laws_FnExactStretchUp.m13 : Array Bool := #[T,T,T,T,T,F,F,F,T,F,F]
abbrev laws_FnExactStretchUp.m14 : Array Bool := #[T,T,T,T,T,T,F,F,T,F,F]
abbrev laws_FnExactStretchUp.m15 : Array Bool := #[T,T,T,T,T,T,T,F,T,F,F]
abbrev laws_FnExactStretchUp.m16 : Array Bool := #[T,T,T,T,T,T,T,T,T,T,F]
abbrev laws_FnExactStretchUp.m17 : Array Bool := #[T,T,T,T,T,T,T,T,T,T,T]
set_option maxHeartbeats 8000000 in
set_option maxRecDepth 100000 in
theorem laws_FnExactStretchUp.calls (k : Nat) (A0 : Option Addr) (c0 : Nat) (l0 : List Int) (a1_0 : Int) (a1_1 : Int) (a1_2 : Int) (r : Bool) (w : World) (hr0 : Kd.C (Kd.int .u8) w A0 l0.length l0) (hc0 : l0.length ≤ c0) (h : laws_FnExactStretchUp.f k l0 a1_0 a1_1 a1_2 = some r) :
  Calls Try.prog 8 #[.slice A0 l0.length c0, .agg #[.int .i64 a1_0, .int .i64 a1_1, .int .i64 a1_2]] w fun e w' => e = .returned (.bool r) ∧ Below w.heap.size w w' := by
 have hu24:=Try.underlying24
 have hu27:=Try.underlying27
 have HR0:=mk0 hr0
 have HC0:=mk0 hc0
 clear hr0 hc0
 have HB:=mk0 (Below.refl w.heap.size w)
 have H:(if (l0.length:Int) > 1048576 then (some true) else ((laws_toByteS.f k l0).bind fun t309=>((laws_toStretch.f a1_0 a1_1 a1_2).bind fun bt312=>((spec_StretchUp.f k t309 bt312.1 bt312.2.1 bt312.2.2).bind fun bt315=>((laws_toByteS.f k l0).bind fun t320=>((laws_toStretch.f a1_0 a1_1 a1_2).bind fun bt323=>((impl_StretchUp.f k t320 bt323.1 bt323.2.1 bt323.2.2).bind fun bt326=>((laws_eqStretch.f bt326.1 bt326.2.1 bt326.2.2.1 bt315.1 bt315.2.1 bt315.2.2.1).bind fun t331=>(if t331 = true then (laws_FnExactStretchUp.j0 k l0 t320 (bt326.2.2.2 != bt315.2.2.2)) else (laws_FnExactStretchUp.j0 k l0 t320 true)))))))))) = some r:=h
 clear h
 by_cases c3:(l0.length:Int) > 1048576
 ·rw [if_pos c3] at H
  have c3b0:decide (1048576 < (l0.length:Int)) = true:=decide_eq_true c3
  have c3b1:decide (1048576 < l0.length) = true:=decide_eq_true (by omega)
  clear c3
  obtain rfl:=Option.some.inj H
  go_enter Try.func8,Try.ntmps8
  go_wp2_with (first|((with_reducible refine gate_dst (N:=3) rfl ?_);refine box_event ?hg (N:=3) ?hd (cs:=#[.int .i64 a1_0,.int .i64 a1_1,.int .i64 a1_2]) (t:=24) ?hr ?_;(case hd=>rfl);(case hg=>rfl);(case hr=>first|(go_simp;done)|(go_simp;rfl));intro gb308 hg w4 hbox hb;have BK308:=mk0 (hbox);have GW308:=mk0 ((by rw [hg];exact (kZ HB.out):w.heap.size ≤ gb308));have GE308:=mk0 ((by rw [hg];exact (kZ HB.out):w.heap.size ≤ gb308));replace HB:=mk0 (kS HB.out hb);clear hb hbox hg))
  go_ret
  exact⟨by first|rfl|(simp [errW_none,errW_some] <;> rfl)|(simp [*,errW_none,errW_some] <;> rfl),kB HB.out⟩
 rw [if_neg c3] at H
 have c3b0:decide (1048576 < (l0.length:Int)) = false:=decide_eq_false c3
 have c3b1:decide (1048576 < l0.length) = false:=decide_eq_false (by omega)
 clear c3
 replace H:=Option.bind_eq_some_iff.mp H
 obtain⟨t309,A50,H⟩:=H
 replace H:((laws_toStretch.f a1_0 a1_1 a1_2).bind fun bt312=>((spec_StretchUp.f k t309 bt312.1 bt312.2.1 bt312.2.2).bind fun bt315=>((laws_toByteS.f k l0).bind fun t320=>((laws_toStretch.f a1_0 a1_1 a1_2).bind fun bt323=>((impl_StretchUp.f k t320 bt323.1 bt323.2.1 bt323.2.2).bind fun bt326=>((laws_eqStretch.f bt326.1 bt326.2.1 bt326.2.2.1 bt315.1 bt315.2.1 bt315.2.2.1).bind fun t331=>(if t331 = true then (laws_FnExactStretchUp.j0 k l0 t320 (bt326.2.2.2 != bt315.2.2.2)) else (laws_FnExactStretchUp.j0 k l0 t320 true)))))))) = some r:=H
 have A5:=mk0 A50
 clear A50
 replace H:=Option.bind_eq_some_iff.mp H
 obtain⟨⟨t312,t313,t314⟩,A60,H⟩:=H
 replace H:((spec_StretchUp.f k t309 t312 t313 t314).bind fun bt315=>((laws_toByteS.f k l0).bind fun t320=>((laws_toStretch.f a1_0 a1_1 a1_2).bind fun bt323=>((impl_StretchUp.f k t320 bt323.1 bt323.2.1 bt323.2.2).bind fun bt326=>((laws_eqStretch.f bt326.1 bt326.2.1 bt326.2.2.1 bt315.1 bt315.2.1 bt315.2.2.1).bind fun t331=>(if t331 = true then (laws_FnExactStretchUp.j0 k l0 t320 (bt326.2.2.2 != bt315.2.2.2)) else (laws_FnExactStretchUp.j0 k l0 t320 true))))))) = some r:=H
 have A6:=mk0 A60
 clear A60
 replace H:=Option.bind_eq_some_iff.mp H
 obtain⟨⟨t315,t316,t317,t318⟩,A70,H⟩:=H
 replace H:((laws_toByteS.f k l0).bind fun t320=>((laws_toStretch.f a1_0 a1_1 a1_2).bind fun bt323=>((impl_StretchUp.f k t320 bt323.1 bt323.2.1 bt323.2.2).bind fun bt326=>((laws_eqStretch.f bt326.1 bt326.2.1 bt326.2.2.1 t315 t316 t317).bind fun t331=>(if t331 = true then (laws_FnExactStretchUp.j0 k l0 t320 (bt326.2.2.2 != t318)) else (laws_FnExactStretchUp.j0 k l0 t320 true)))))) = some r:=H
 have A7:=mk0 A70
 clear A70
 replace H:=Option.bind_eq_some_iff.mp H
 obtain⟨t320,A80,H⟩:=H
 replace H:((laws_toStretch.f a1_0 a1_1 a1_2).bind fun bt323=>((impl_StretchUp.f k t320 bt323.1 bt323.2.1 bt323.2.2).bind fun bt326=>((laws_eqStretch.f bt326.1 bt326.2.1 bt326.2.2.1 t315 t316 t317).bind fun t331=>(if t331 = true then (laws_FnExactStretchUp.j0 k l0 t320 (bt326.2.2.2 != t318)) else (laws_FnExactStretchUp.j0 k l0 t320 true))))) = some r:=H
 have A8:=mk0 A80
 clear A80
 replace H:=Option.bind_eq_some_iff.mp H
 obtain⟨⟨t323,t324,t325⟩,A90,H⟩:=H
 replace H:((impl_StretchUp.f k t320 t323 t324 t325).bind fun bt326=>((laws_eqStretch.f bt326.1 bt326.2.1 bt326.2.2.1 t315 t316 t317).bind fun t331=>(if t331 = true then (laws_FnExactStretchUp.j0 k l0 t320 (bt326.2.2.2 != t318)) else (laws_FnExactStretchUp.j0 k l0 t320 true)))) = some r:=H
 have A9:=mk0 A90
 clear A90
 replace H:=Option.bind_eq_some_iff.mp H
 obtain⟨⟨t326,t327,t328,t329⟩,A100,H⟩:=H
 replace H:((laws_eqStretch.f t326 t327 t328 t315 t316 t317).bind fun t331=>(if t331 = true then (laws_FnExactStretchUp.j0 k l0 t320 (t329 != t318)) else (laws_FnExactStretchUp.j0 k l0 t320 true))) = some r:=H
 have A10:=mk0 A100
 clear A100
 have HC11:=mk0 H
 clear H
 go_enter Try.func8,Try.ntmps8
 try go_wp2_with (first|((with_reducible refine gate_dst (N:=3) rfl ?_);refine box_event ?hg (N:=3) ?hd (cs:=#[.int .i64 a1_0,.int .i64 a1_1,.int .i64 a1_2]) (t:=24) ?hr ?_;(case hd=>rfl);(case hg=>rfl);(case hr=>first|(go_simp;done)|(go_simp;rfl));intro gb308 hg w12 hbox hb;have BK308:=mk0 (hbox);have GW308:=mk0 ((by rw [hg];exact (kZ HB.out):w.heap.size ≤ gb308));have GE308:=mk0 ((by rw [hg];exact (kZ HB.out):w.heap.size ≤ gb308));replace HB:=mk0 (kS HB.out hb);clear hb hbox hg))
 replace BK308:=mk0 (dB BK308.out)
 replace HB:=mk0 (dZ HB.out)
 refine start_ (n:=11) (S:=fun w'=>w'.cell? ⟨gb308,0,none⟩ = some (.int .i64 a1_0) ∧ w'.cell? ⟨gb308,1,none⟩ = some (.int .i64 a1_1) ∧ w'.cell? ⟨gb308,2,none⟩ = some (.int .i64 a1_2)) (ds:=[]) laws_FnExactStretchUp.m0 (by kernel_rfl) rfl rfl (ck3 BK308.out) (fun hHeld=>?_);refine with_tabW laws_FnExactStretchUp.tab3 laws_FnExactStretchUp.bits3 (fun HT_ HW_=>?_)
 generalize w12.drew = w13 at BK308 HB hHeld ⊢
 refine pure_ (i:=0) (N:=some 14) (v:=?_) (a':=?_) laws_FnExactStretchUp.m1 rfl rfl (any_of HT_.out (by kernel_rfl)) (fun _ _ _ h=>h) (Or.inl ⟨by rfl,?_⟩) ?_ ?_
 rotate_left
 ·intro w'
  go_simp
  with_reducible rfl
 rotate_left
 ·simp only [Act.put,sA,sO,sS,i64_w,i32_w]
  rfl
 refine take_ (i:=2) (N:=some 16) (v:=?_) (a':=?_) laws_FnExactStretchUp.m2 rfl rfl (take_ofW HT_.out HW_.out (by kernel_rfl)) (fun _ _ _ h=>h) (Or.inl ⟨by rfl,?_⟩) hHeld ?_ ?_
 rotate_left
 ·rintro w' ⟨s0,s1,s2⟩
  go_simp
  with_reducible rfl
 rotate_left
 ·simp only [Act.put,sA,sO,sS,i64_w,i32_w]
  rfl
 refine join_ (σ:=Value × Nat) 2 laws_FnExactStretchUp.m3 (fun s_=>[(15,s_.1),(17,.agg #[.int .i64 t312,.int .i64 t313,.int .i64 t314]),(18,.tuple #[.agg #[.int .i64 t315,.int .i64 t316,.int .i64 t317],.bool t318]),(5,.pointer (some ⟨s_.2,0,none⟩)),(13,.tuple #[.agg #[.int .i64 t315,.int .i64 t316,.int .i64 t317],.bool t318]),(19,.agg #[.int .i64 t315,.int .i64 t316,.int .i64 t317]),(20,.bool t318)]) (fun s_ w'=>(w'.cell? ⟨gb308,0,none⟩ = some (.int .i64 a1_0) ∧ w'.cell? ⟨gb308,1,none⟩ = some (.int .i64 a1_1) ∧ w'.cell? ⟨gb308,2,none⟩ = some (.int .i64 a1_2)) ∧ (Kd.R (Kd.int .u8) 5 w' w.heap.size (fun _=>True) s_.1 t309) ∧ (w'.heap[gb308]? = some (.cells #[.int .i64 a1_0,.int .i64 a1_1,.int .i64 a1_2] 24 (0,0))) ∧ (w'.heap[s_.2]? = some (.cells #[.int .i64 0,.int .i64 0,.int .i64 0] 27 (0,0))) ∧ (w.heap.size ≤ s_.2) ∧ (w.heap.size ≤ s_.2) ∧ (gb308 ≠ s_.2) ∧ (s_.2 ≠ gb308) ∧ (Below w.heap.size w w')) ?_ ?_
 rotate_left
 ·intro hCont
  refine two_ (i:=1) (j:=8) (Ni:=some 15) (Nj:=some 5) laws_FnExactStretchUp.m4 laws_FnExactStretchUp.m5 rfl rfl rfl rfl (two_of HT_.out (by kernel_rfl)) (by decide) (by decide) (fun K hK=>?_) (fun K hK=>?_)
  ·skip
   refine goes_ Try.func12 (by kernel_rfl) rfl #[.slice A0 l0.length c0] (by rfl) rfl rfl (by (try simp only [mA,mC,mN]);first|done|rfl|(simp only [List.length_drop,List.length_take];done)|(simp only [List.length_drop,List.length_take];rfl)) ?_
   with_reducible refine (laws_toByteS.calls k _ _ l0 t309 _ ?side1 ?side2 A5.out).mono ?_
   (case side1=>exact kC (Kd.C_below HR0.out HB.out))
   (case side2=>exact HC0.out)
   rintro e w14 ⟨v310,rfl,ho0,hb⟩
   refine⟨_,rfl,?_⟩
   have HO311:=mk0 (Kd.R_lower ho0 (kZ HB.out))
   replace BK308:=mk0 (kK BK308.out hb)
   replace HB:=mk0 (kS HB.out hb)
   (try clear hb)
   (try clear ho0)
   refine hK.out _ _ (ck3 BK308.out) (fun hHeld=>?_)
   clear hK K
   refine norm_ (a':=?_) ?_ ?_
   rotate_left
   ·show Act.put _ (some 15) _ = _
    simp only [Act.put,sA,sO,sS,i64_w,i32_w]
    rfl
   refine two_ (i:=3) (j:=8) (Ni:=some 17) (Nj:=some 5) laws_FnExactStretchUp.m6 laws_FnExactStretchUp.m7 rfl rfl rfl rfl (two_of HT_.out (by kernel_rfl)) (by decide) (by decide) (fun K hK=>?_) (fun K hK=>?_)
   ·skip
    refine goes_ Try.func13 (by kernel_rfl) rfl #[.agg #[.int .i64 a1_0,.int .i64 a1_1,.int .i64 a1_2]] (by rfl) rfl rfl (by (try simp only [mA,mC,mN]);first|done|rfl|(simp only [List.length_drop,List.length_take];done)|(simp only [List.length_drop,List.length_take];rfl)) ?_
    with_reducible refine (laws_toStretch.calls a1_0 a1_1 a1_2 t312 t313 t314 _ A6.out).mono ?_
    rintro e w15 ⟨rfl,hb⟩
    refine⟨_,rfl,?_⟩
    replace HO311:=mk0 (bR HO311.out hb)
    replace BK308:=mk0 (kK BK308.out hb)
    replace HB:=mk0 (kS HB.out hb)
    (try clear hb)
    obtain⟨Ao16,co16,eo16⟩:=Kd.R_slice HO311.out
    (first|subst eo16|(injection eo16 with f1_ f2_ f3_;have f4_:=f1_.symm;have f5_:=f3_.symm;clear f1_ f2_ f3_;subst f4_;subst f5_))
    refine hK.out _ _ (ck3 BK308.out) (fun hHeld=>?_)
    clear hK K
    refine norm_ (a':=?_) ?_ ?_
    rotate_left
    ·show Act.put _ (some 17) _ = _
     simp only [Act.put,sA,sO,sS,i64_w,i32_w]
     rfl
    refine two_ (i:=4) (j:=8) (Ni:=some 18) (Nj:=some 5) laws_FnExactStretchUp.m8 laws_FnExactStretchUp.m9 rfl rfl rfl rfl (two_of HT_.out (by kernel_rfl)) (by decide) (by decide) (fun K hK=>?_) (fun K hK=>?_)
    ·skip
     refine goes_ Try.func30 (by kernel_rfl) rfl #[.slice Ao16 t309.length co16,.agg #[.int .i64 t312,.int .i64 t313,.int .i64 t314]] (by rfl) rfl rfl (by (try simp only [mA,mC,mN]);first|done|rfl|(simp only [List.length_drop,List.length_take];done)|(simp only [List.length_drop,List.length_take];rfl)) ?_
     with_reducible refine (spec_StretchUp.calls k _ _ t309 t312 t313 t314 t315 t316 t317 t318 _ ?side1 ?side2 A7.out).mono ?_
     (case side1=>exact kC (Kd.R_reads' HO311.out).2.2)
     (case side2=>exact (Kd.R_reads' HO311.out).2.1)
     rintro e w17 ⟨rfl,hb⟩
     refine⟨_,rfl,?_⟩
     replace HO311:=mk0 (bR HO311.out hb)
     replace BK308:=mk0 (kK BK308.out hb)
     replace HB:=mk0 (kS HB.out hb)
     (try clear hb)
     refine hK.out _ _ (ck3 BK308.out) (fun hHeld=>?_)
     clear hK K
     refine norm_ (a':=?_) ?_ ?_
     rotate_left
     ·show Act.put _ (some 18) _ = _
      simp only [Act.put,sA,sO,sS,i64_w,i32_w]
      rfl
     refine pure_ (i:=5) (N:=some 13) (v:=?_) (a':=?_) laws_FnExactStretchUp.m10 rfl rfl (any_of HT_.out (by kernel_rfl)) (fun _ _ _ h=>h) (Or.inl ⟨by rfl,?_⟩) ?_ ?_
     rotate_left
     ·intro w'
      go_simp
      with_reducible rfl
     rotate_left
     ·simp only [Act.put,sA,sO,sS,i64_w,i32_w]
      rfl
     refine pure_ (i:=6) (N:=some 19) (v:=?_) (a':=?_) laws_FnExactStretchUp.m11 rfl rfl (any_of HT_.out (by kernel_rfl)) (fun _ _ _ h=>h) (Or.inl ⟨by rfl,?_⟩) ?_ ?_
     rotate_left
     ·intro w'
      go_simp
      with_reducible rfl
     rotate_left
     ·simp only [Act.put,sA,sO,sS,i64_w,i32_w]
      rfl
     refine pure_ (i:=7) (N:=some 20) (v:=?_) (a':=?_) laws_FnExactStretchUp.m12 rfl rfl (any_of HT_.out (by kernel_rfl)) (fun _ _ _ h=>h) (Or.inl ⟨by rfl,?_⟩) ?_ ?_
     rotate_left
     ·intro w'
      go_simp
      with_reducible rfl
     rotate_left
     ·simp only [Act.put,sA,sO,sS,i64_w,i32_w]
      rfl
     refine one_ (i:=8) (N:=some 5) laws_FnExactStretchUp.m3 rfl rfl (one_of HT_.out (by kernel_rfl)) (by decide) (fun K hK=>?_)
     refine box_step ?hg (N:=5) ?hd (cs:=#[.int .i64 0,.int .i64 0,.int .i64 0]) (t:=27) ?hr ?_;(case hd=>rfl);(case hg=>rfl);(case hr=>first|(go_simp;done)|(go_simp;rfl))
     intro gb319 hg w18 hbox hb
     replace HO311:=mk0 (bR HO311.out hb)
     have BK319:=mk0 (hbox)
     have GW319:=mk0 ((by rw [hg];exact (kZ HB.out):w.heap.size ≤ gb319))
     have GE319:=mk0 ((by rw [hg];exact (kZ HB.out):w.heap.size ≤ gb319))
     replace HB:=mk0 (kS HB.out hb)
     have NB308_319:=mk0 ((by rw [hg];exact Nat.ne_of_lt (kL BK308.out):gb308 ≠ gb319))
     have NB319_308:=mk0 ((by rw [hg];exact Nat.ne_of_gt (kL BK308.out):gb319 ≠ gb308))
     replace BK308:=mk0 (kK BK308.out hb)
     clear hb hbox hg
     refine hK.out _ _ (ck3 BK308.out) (fun hHeld=>?_)
     clear hK K
     refine norm_ (a':=?_) ?_ ?_
     rotate_left
     ·show Act.put _ (some 5) _ = _
      simp only [Act.put,sA,sO,sS,i64_w,i32_w]
      rfl
     exact norm_ (by simp only [putAll,Act.put,sA,sO,sS]) (hCont (.slice Ao16 t309.length co16,gb319) _ ⟨hHeld,(rR HO311.out),(kN BK308.out),(kN BK319.out),GW319.out,GE319.out,NB308_319.out,NB319_308.out,(kB HB.out)⟩)
    ·skip
     refine box_step ?hg (N:=5) ?hd (cs:=#[.int .i64 0,.int .i64 0,.int .i64 0]) (t:=27) ?hr ?_;(case hd=>rfl);(case hg=>rfl);(case hr=>first|(go_simp;done)|(go_simp;rfl))
     intro gb319 hg w16 hbox hb
     replace HO311:=mk0 (bR HO311.out hb)
     have BK319:=mk0 (hbox)
     have GW319:=mk0 ((by rw [hg];exact (kZ HB.out):w.heap.size ≤ gb319))
     have GE319:=mk0 ((by rw [hg];exact (kZ HB.out):w.heap.size ≤ gb319))
     replace HB:=mk0 (kS HB.out hb)
     have NB308_319:=mk0 ((by rw [hg];exact Nat.ne_of_lt (kL BK308.out):gb308 ≠ gb319))
     have NB319_308:=mk0 ((by rw [hg];exact Nat.ne_of_gt (kL BK308.out):gb319 ≠ gb308))
     replace BK308:=mk0 (kK BK308.out hb)
     clear hb hbox hg
     obtain⟨Ao17,co17,eo17⟩:=Kd.R_slice HO311.out
     (first|subst eo17|(injection eo17 with f1_ f2_ f3_;have f4_:=f1_.symm;have f5_:=f3_.symm;clear f1_ f2_ f3_;subst f4_;subst f5_))
     refine hK.out _ _ (ck3 BK308.out) (fun hHeld=>?_)
     clear hK K
     refine norm_ (a':=?_) ?_ ?_
     rotate_left
     ·show Act.put _ (some 5) _ = _
      simp only [Act.put,sA,sO,sS,i64_w,i32_w]
      rfl
     refine one_ (i:=4) (N:=some 18) laws_FnExactStretchUp.m13 rfl rfl (one_of HT_.out (by kernel_rfl)) (by decide) (fun K hK=>?_)
     refine goes_ Try.func30 (by kernel_rfl) rfl #[.slice Ao17 t309.length co17,.agg #[.int .i64 t312,.int .i64 t313,.int .i64 t314]] (by rfl) rfl rfl (by (try simp only [mA,mC,mN]);first|done|rfl|(simp only [List.length_drop,List.length_take];done)|(simp only [List.length_drop,List.length_take];rfl)) ?_
     with_reducible refine (spec_StretchUp.calls k _ _ t309 t312 t313 t314 t315 t316 t317 t318 _ ?side1 ?side2 A7.out).mono ?_
     (case side1=>exact kC (Kd.R_reads' HO311.out).2.2)
     (case side2=>exact (Kd.R_reads' HO311.out).2.1)
     rintro e w18 ⟨rfl,hb⟩
     refine⟨_,rfl,?_⟩
     replace HO311:=mk0 (bR HO311.out hb)
     replace BK308:=mk0 (kK BK308.out hb)
     replace BK319:=mk0 (kK BK319.out hb)
     replace HB:=mk0 (kS HB.out hb)
     (try clear hb)
     refine hK.out _ _ (ck3 BK308.out) (fun hHeld=>?_)
     clear hK K
     refine norm_ (a':=?_) ?_ ?_
     rotate_left
     ·show Act.put _ (some 18) _ = _
      simp only [Act.put,sA,sO,sS,i64_w,i32_w]
      rfl
     refine pure_ (i:=5) (N:=some 13) (v:=?_) (a':=?_) laws_FnExactStretchUp.m14 rfl rfl (any_of HT_.out (by kernel_rfl)) (fun _ _ _ h=>h) (Or.inl ⟨by rfl,?_⟩) ?_ ?_
     rotate_left
     ·intro w'
      go_simp
      with_reducible rfl
     rotate_left
     ·simp only [Act.put,sA,sO,sS,i64_w,i32_w]
      rfl
     refine pure_ (i:=6) (N:=some 19) (v:=?_) (a':=?_) laws_FnExactStretchUp.m15 rfl rfl (any_of HT_.out (by kernel_rfl)) (fun _ _ _ h=>h) (Or.inl ⟨by rfl,?_⟩) ?_ ?_
     rotate_left
     ·intro w'
      go_simp
      with_reducible rfl
     rotate_left
     ·simp only [Act.put,sA,sO,sS,i64_w,i32_w]
      rfl
     refine pure_ (i:=7) (N:=some 20) (v:=?_) (a':=?_) laws_FnExactStretchUp.m3 rfl rfl (any_of HT_.out (by kernel_rfl)) (fun _ _ _ h=>h) (Or.inl ⟨by rfl,?_⟩) ?_ ?_
     rotate_left
     ·intro w'
      go_simp
      with_reducible rfl
     rotate_left
     ·simp only [Act.put,sA,sO,sS,i64_w,i32_w]
      rfl
     exact norm_ (by simp only [putAll,Act.put,sA,sO,sS]) (hCont (.slice Ao17 t309.length co17,gb319) _ ⟨hHeld,(rR HO311.out),(kN BK308.out),(kN BK319.out),GW319.out,GE319.out,NB308_319.out,NB319_308.out,(kB HB.out)⟩)
   ·skip
    refine box_step ?hg (N:=5) ?hd (cs:=#[.int .i64 0,.int .i64 0,.int .i64 0]) (t:=27) ?hr ?_;(case hd=>rfl);(case hg=>rfl);(case hr=>first|(go_simp;done)|(go_simp;rfl))
    intro gb319 hg w15 hbox hb
    replace HO311:=mk0 (bR HO311.out hb)
    have BK319:=mk0 (hbox)
    have GW319:=mk0 ((by rw [hg];exact (kZ HB.out):w.heap.size ≤ gb319))
    have GE319:=mk0 ((by rw [hg];exact (kZ HB.out):w.heap.size ≤ gb319))
    replace HB:=mk0 (kS HB.out hb)
    have NB308_319:=mk0 ((by rw [hg];exact Nat.ne_of_lt (kL BK308.out):gb308 ≠ gb319))
    have NB319_308:=mk0 ((by rw [hg];exact Nat.ne_of_gt (kL BK308.out):gb319 ≠ gb308))
    replace BK308:=mk0 (kK BK308.out hb)
    clear hb hbox hg
    refine hK.out _ _ (ck3 BK308.out) (fun hHeld=>?_)
    clear hK K
    refine norm_ (a':=?_) ?_ ?_
    rotate_left
    ·show Act.put _ (some 5) _ = _
     simp only [Act.put,sA,sO,sS,i64_w,i32_w]
     rfl
    refine one_ (i:=3) (N:=some 17) laws_FnExactStretchUp.m9 rfl rfl (one_of HT_.out (by kernel_rfl)) (by decide) (fun K hK=>?_)
    refine goes_ Try.func13 (by kernel_rfl) rfl #[.agg #[.int .i64 a1_0,.int .i64 a1_1,.int .i64 a1_2]] (by rfl) rfl rfl (by (try simp only [mA,mC,mN]);first|done|rfl|(simp only [List.length_drop,List.length_take];done)|(simp only [List.length_drop,List.length_take];rfl)) ?_
    with_reducible refine (laws_toStretch.calls a1_0 a1_1 a1_2 t312 t313 t314 _ A6.out).mono ?_
    rintro e w16 ⟨rfl,hb⟩
    refine⟨_,rfl,?_⟩
    replace HO311:=mk0 (bR HO311.out hb)
    replace BK308:=mk0 (kK BK308.out hb)
    replace BK319:=mk0 (kK BK319.out hb)
    replace HB:=mk0 (kS HB.out hb)
    (try clear hb)
    obtain⟨Ao17,co17,eo17⟩:=Kd.R_slice HO311.out
    (first|subst eo17|(injection eo17 with f1_ f2_ f3_;have f4_:=f1_.symm;have f5_:=f3_.symm;clear f1_ f2_ f3_;subst f4_;subst f5_))
    refine hK.out _ _ (ck3 BK308.out) (fun hHeld=>?_)
    clear hK K
    refine norm_ (a':=?_) ?_ ?_
    rotate_left
    ·show Act.put _ (some 17) _ = _
     simp only [Act.put,sA,sO,sS,i64_w,i32_w]
     rfl
    refine one_ (i:=4) (N:=some 18) laws_FnExactStretchUp.m13 rfl rfl (one_of HT_.out (by kernel_rfl)) (by decide) (fun K hK=>?_)
    refine goes_ Try.func30 (by kernel_rfl) rfl #[.slice Ao17 t309.length co17,.agg #[.int .i64 t312,.int .i64 t313,.int .i64 t314]] (by rfl) rfl rfl (by (try simp only [mA,mC,mN]);first|done|rfl|(simp only [List.length_drop,List.length_take];done)|(simp only [List.length_drop,List.length_take];rfl)) ?_
    with_reducible refine (spec_StretchUp.calls k _ _ t309 t312 t313 t314 t315 t316 t317 t318 _ ?side1 ?side2 A7.out).mono ?_
    (case side1=>exact kC (Kd.R_reads' HO311.out).2.2)
    (case side2=>exact (Kd.R_reads' HO311.out).2.1)
    rintro e w18 ⟨rfl,hb⟩
    refine⟨_,rfl,?_⟩
    replace HO311:=mk0 (bR HO311.out hb)
    replace BK308:=mk0 (kK BK308.out hb)
    replace BK319:=mk0 (kK BK319.out hb)
    replace HB:=mk0 (kS HB.out hb)
    (try clear hb)
    refine hK.out _ _ (ck3 BK308.out) (fun hHeld=>?_)
    clear hK K
    refine norm_ (a':=?_) ?_ ?_
    rotate_left
    ·show Act.put _ (some 18) _ = _
     simp only [Act.put,sA,sO,sS,i64_w,i32_w]
     rfl
    refine pure_ (i:=5) (N:=some 13) (v:=?_) (a':=?_) laws_FnExactStretchUp.m14 rfl rfl (any_of HT_.out (by kernel_rfl)) (fun _ _ _ h=>h) (Or.inl ⟨by rfl,?_⟩) ?_ ?_
    rotate_left
    ·intro w'
     go_simp
     with_reducible rfl
    rotate_left
    ·simp only [Act.put,sA,sO,sS,i64_w,i32_w]
     rfl
    refine pure_ (i:=6) (N:=some 19) (v:=?_) (a':=?_) laws_FnExactStretchUp.m15 rfl rfl (any_of HT_.out (by kernel_rfl)) (fun _ _ _ h=>h) (Or.inl ⟨by rfl,?_⟩) ?_ ?_
    rotate_left
    ·intro w'
     go_simp
     with_reducible rfl
    rotate_left
    ·simp only [Act.put,sA,sO,sS,i64_w,i32_w]
     rfl
    refine pure_ (i:=7) (N:=some 20) (v:=?_) (a':=?_) laws_FnExactStretchUp.m3 rfl rfl (any_of HT_.out (by kernel_rfl)) (fun _ _ _ h=>h) (Or.inl ⟨by rfl,?_⟩) ?_ ?_
    rotate_left
    ·intro w'
     go_simp
     with_reducible rfl
    rotate_left
    ·simp only [Act.put,sA,sO,sS,i64_w,i32_w]
     rfl
    exact norm_ (by simp only [putAll,Act.put,sA,sO,sS]) (hCont (.slice Ao17 t309.length co17,gb319) _ ⟨hHeld,(rR HO311.out),(kN BK308.out),(kN BK319.out),GW319.out,GE319.out,NB308_319.out,NB319_308.out,(kB HB.out)⟩)
  ·skip
   refine box_step ?hg (N:=5) ?hd (cs:=#[.int .i64 0,.int .i64 0,.int .i64 0]) (t:=27) ?hr ?_;(case hd=>rfl);(case hg=>rfl);(case hr=>first|(go_simp;done)|(go_simp;rfl))
   intro gb319 hg w14 hbox hb
   have BK319:=mk0 (hbox)
   have GW319:=mk0 ((by rw [hg];exact (kZ HB.out):w.heap.size ≤ gb319))
   have GE319:=mk0 ((by rw [hg];exact (kZ HB.out):w.heap.size ≤ gb319))
   replace HB:=mk0 (kS HB.out hb)
   have NB308_319:=mk0 ((by rw [hg];exact Nat.ne_of_lt (kL BK308.out):gb308 ≠ gb319))
   have NB319_308:=mk0 ((by rw [hg];exact Nat.ne_of_gt (kL BK308.out):gb319 ≠ gb308))
   replace BK308:=mk0 (kK BK308.out hb)
   clear hb hbox hg
   refine hK.out _ _ (ck3 BK308.out) (fun hHeld=>?_)
   clear hK K
   refine norm_ (a':=?_) ?_ ?_
   rotate_left
   ·show Act.put _ (some 5) _ = _
    simp only [Act.put,sA,sO,sS,i64_w,i32_w]
    rfl
   refine one_ (i:=1) (N:=some 15) laws_FnExactStretchUp.m7 rfl rfl (one_of HT_.out (by kernel_rfl)) (by decide) (fun K hK=>?_)
   refine goes_ Try.func12 (by kernel_rfl) rfl #[.slice A0 l0.length c0] (by rfl) rfl rfl (by (try simp only [mA,mC,mN]);first|done|rfl|(simp only [List.length_drop,List.length_take];done)|(simp only [List.length_drop,List.length_take];rfl)) ?_
   with_reducible refine (laws_toByteS.calls k _ _ l0 t309 _ ?side1 ?side2 A5.out).mono ?_
   (case side1=>exact kC (Kd.C_below HR0.out HB.out))
   (case side2=>exact HC0.out)
   rintro e w15 ⟨v310,rfl,ho0,hb⟩
   refine⟨_,rfl,?_⟩
   have HO311:=mk0 (Kd.R_lower ho0 (kZ HB.out))
   replace BK308:=mk0 (kK BK308.out hb)
   replace BK319:=mk0 (kK BK319.out hb)
   replace HB:=mk0 (kS HB.out hb)
   (try clear hb)
   (try clear ho0)
   refine hK.out _ _ (ck3 BK308.out) (fun hHeld=>?_)
   clear hK K
   refine norm_ (a':=?_) ?_ ?_
   rotate_left
   ·show Act.put _ (some 15) _ = _
    simp only [Act.put,sA,sO,sS,i64_w,i32_w]
    rfl
   refine one_ (i:=3) (N:=some 17) laws_FnExactStretchUp.m9 rfl rfl (one_of HT_.out (by kernel_rfl)) (by decide) (fun K hK=>?_)
   refine goes_ Try.func13 (by kernel_rfl) rfl #[.agg #[.int .i64 a1_0,.int .i64 a1_1,.int .i64 a1_2]] (by rfl) rfl rfl (by (try simp only [mA,mC,mN]);first|done|rfl|(simp only [List.length_drop,List.length_take];done)|(simp only [List.length_drop,List.length_take];rfl)) ?_
   with_reducible refine (laws_toStretch.calls a1_0 a1_1 a1_2 t312 t313 t314 _ A6.out).mono ?_
   rintro e w16 ⟨rfl,hb⟩
   refine⟨_,rfl,?_⟩
   replace HO311:=mk0 (bR HO311.out hb)
   replace BK308:=mk0 (kK BK308.out hb)
   replace BK319:=mk0 (kK BK319.out hb)
   replace HB:=mk0 (kS HB.out hb)
   (try clear hb)
   obtain⟨Ao17,co17,eo17⟩:=Kd.R_slice HO311.out
   (first|subst eo17|(injection eo17 with f1_ f2_ f3_;have f4_:=f1_.symm;have f5_:=f3_.symm;clear f1_ f2_ f3_;subst f4_;subst f5_))
   refine hK.out _ _ (ck3 BK308.out) (fun hHeld=>?_)
   clear hK K
   refine norm_ (a':=?_) ?_ ?_
   rotate_left
   ·show Act.put _ (some 17) _ = _
    simp only [Act.put,sA,sO,sS,i64_w,i32_w]
    rfl
   refine one_ (i:=4) (N:=some 18) laws_FnExactStretchUp.m13 rfl rfl (one_of HT_.out (by kernel_rfl)) (by decide) (fun K hK=>?_)
   refine goes_ Try.func30 (by kernel_rfl) rfl #[.slice Ao17 t309.length co17,.agg #[.int .i64 t312,.int .i64 t313,.int .i64 t314]] (by rfl) rfl rfl (by (try simp only [mA,mC,mN]);first|done|rfl|(simp only [List.length_drop,List.length_take];done)|(simp only [List.length_drop,List.length_take];rfl)) ?_
   with_reducible refine (spec_StretchUp.calls k _ _ t309 t312 t313 t314 t315 t316 t317 t318 _ ?side1 ?side2 A7.out).mono ?_
   (case side1=>exact kC (Kd.R_reads' HO311.out).2.2)
   (case side2=>exact (Kd.R_reads' HO311.out).2.1)
   rintro e w18 ⟨rfl,hb⟩
   refine⟨_,rfl,?_⟩
   replace HO311:=mk0 (bR HO311.out hb)
   replace BK308:=mk0 (kK BK308.out hb)
   replace BK319:=mk0 (kK BK319.out hb)
   replace HB:=mk0 (kS HB.out hb)
   (try clear hb)
   refine hK.out _ _ (ck3 BK308.out) (fun hHeld=>?_)
   clear hK K
   refine norm_ (a':=?_) ?_ ?_
   rotate_left
   ·show Act.put _ (some 18) _ = _
    simp only [Act.put,sA,sO,sS,i64_w,i32_w]
    rfl
   refine pure_ (i:=5) (N:=some 13) (v:=?_) (a':=?_) laws_FnExactStretchUp.m14 rfl rfl (any_of HT_.out (by kernel_rfl)) (fun _ _ _ h=>h) (Or.inl ⟨by rfl,?_⟩) ?_ ?_
   rotate_left
   ·intro w'
    go_simp
    with_reducible rfl
   rotate_left
   ·simp only [Act.put,sA,sO,sS,i64_w,i32_w]
    rfl
   refine pure_ (i:=6) (N:=some 19) (v:=?_) (a':=?_) laws_FnExactStretchUp.m15 rfl rfl (any_of HT_.out (by kernel_rfl)) (fun _ _ _ h=>h) (Or.inl ⟨by rfl,?_⟩) ?_ ?_
   rotate_left
   ·intro w'
    go_simp
    with_reducible rfl
   rotate_left
   ·simp only [Act.put,sA,sO,sS,i64_w,i32_w]
    rfl
   refine pure_ (i:=7) (N:=some 20) (v:=?_) (a':=?_) laws_FnExactStretchUp.m3 rfl rfl (any_of HT_.out (by kernel_rfl)) (fun _ _ _ h=>h) (Or.inl ⟨by rfl,?_⟩) ?_ ?_
   rotate_left
   ·intro w'
    go_simp
    with_reducible rfl
   rotate_left
   ·simp only [Act.put,sA,sO,sS,i64_w,i32_w]
    rfl
   exact norm_ (by simp only [putAll,Act.put,sA,sO,sS]) (hCont (.slice Ao17 t309.length co17,gb319) _ ⟨hHeld,(rR HO311.out),(kN BK308.out),(kN BK319.out),GW319.out,GE319.out,NB308_319.out,NB319_308.out,(kB HB.out)⟩)
 rintro⟨v310,gb319⟩ w19 ⟨hS_,h0_,h1_,h2_,h3_,h4_,h5_,h6_,h7_⟩
 have n0_:Aside0 (Kd.R (Kd.int .u8) 5 w19 w.heap.size (fun _=>True) v310 t309):=⟨h0_⟩
 have n1_:Aside0 (w19.heap[gb308]? = some (.cells #[.int .i64 a1_0,.int .i64 a1_1,.int .i64 a1_2] 24 (0,0))):=⟨h1_⟩
 have n2_:Aside0 (w19.heap[gb319]? = some (.cells #[.int .i64 0,.int .i64 0,.int .i64 0] 27 (0,0))):=⟨h2_⟩
 have n3_:Aside0 (w.heap.size ≤ gb319):=⟨h3_⟩
 have n4_:Aside0 (w.heap.size ≤ gb319):=⟨h4_⟩
 have n5_:Aside0 (gb308 ≠ gb319):=⟨h5_⟩
 have n6_:Aside0 (gb319 ≠ gb308):=⟨h6_⟩
 have n7_:Aside0 (Below w.heap.size w w19):=⟨h7_⟩
 clear BK308
 clear HB
 clear h0_ h1_ h2_ h3_ h4_ h5_ h6_ h7_
 have HO311:=n0_
 have BK308:=n1_
 have BK319:=n2_
 have GW319:=n3_
 have GE319:=n4_
 have NB308_319:=n5_
 have NB319_308:=n6_
 have HB:=n7_
 clear n0_ n1_ n2_ n3_ n4_ n5_ n6_ n7_
 have hHeld:w19.cell? ⟨gb308,0,none⟩ = some (.int .i64 a1_0) ∧ w19.cell? ⟨gb308,1,none⟩ = some (.int .i64 a1_1) ∧ w19.cell? ⟨gb308,2,none⟩ = some (.int .i64 a1_2):=hS_
 refine norm_ (a':=?_) ?_ ?_
 rotate_left
 ·simp only [putAll,Act.put,sA,sO,sS]
  rfl
 refine one_ (i:=9) (N:=none) laws_FnExactStretchUp.m16 rfl rfl (one_of HT_.out (by kernel_rfl)) (by decide) (fun K hK=>?_)
 have hs20:w19.cell? ⟨gb319,0,none⟩ = some (.int .i64 0):=(blk_cell BK319.out 0).trans rfl
 have hfs20:=blk_frozen BK319.out 0
 have hns20_0:=NB308_319.out
 have hms20_0:=NB319_308.out
 have hs21:w19.cell? ⟨gb319,1,none⟩ = some (.int .i64 0):=(blk_cell BK319.out 1).trans rfl
 have hfs21:=blk_frozen BK319.out 1
 have hns21_0:=NB308_319.out
 have hms21_0:=NB319_308.out
 have hs22:w19.cell? ⟨gb319,2,none⟩ = some (.int .i64 0):=(blk_cell BK319.out 2).trans rfl
 have hfs22:=blk_frozen BK319.out 2
 have hns22_0:=NB308_319.out
 have hms22_0:=NB319_308.out
 refine skip_ (w1:=?_) (by rfl) rfl ?_ ?_
 rotate_left
 ·go_simp
  rfl
 refine hK.out _ _ ⟨((cell_far (p:=⟨gb319,_,none⟩) NB308_319.out _).trans (((cell_far (p:=⟨gb319,_,none⟩) NB308_319.out _).trans (((cell_far (p:=⟨gb319,_,none⟩) NB308_319.out _).trans (hHeld.1)))))),((cell_far (p:=⟨gb319,_,none⟩) NB308_319.out _).trans (((cell_far (p:=⟨gb319,_,none⟩) NB308_319.out _).trans (((cell_far (p:=⟨gb319,_,none⟩) NB308_319.out _).trans (hHeld.2.1)))))),((cell_far (p:=⟨gb319,_,none⟩) NB308_319.out _).trans (((cell_far (p:=⟨gb319,_,none⟩) NB308_319.out _).trans (((cell_far (p:=⟨gb319,_,none⟩) NB308_319.out _).trans (hHeld.2.2))))))⟩ (fun hHeld=>?_)
 clear hK K
 refine pure_ (i:=10) (N:=some 6) (v:=?_) (a':=?_) laws_FnExactStretchUp.m17 rfl rfl (any_of HT_.out (by kernel_rfl)) (fun _ _ _ h=>h) (Or.inl ⟨by rfl,?_⟩) ?_ ?_
 rotate_left
 ·intro w'
  go_simp
  with_reducible rfl
 rotate_left
 ·simp only [Act.put,sA,sO,sS,i64_w,i32_w]
  rfl
 refine done_ (done_of HT_.out (by kernel_rfl)) ?_
 go_upto_region 6 with (first|((with_reducible refine gate_callee (f:=12) rfl ?_);refine goesL_ (some 22) rfl rfl Try.func12 (by kernel_rfl) rfl #[.slice A0 l0.length c0] rfl (by (try simp only [mA,mC,mN]);first|done|rfl|(simp only [List.length_drop,List.length_take];done)|(simp only [List.length_drop,List.length_take];rfl)) ?_;(with_reducible refine (laws_toByteS.calls k _ _ l0 t320 _ ?side1 ?side2 A8.out).mono ?_);(case side1=>exact Kd.C_below HR0.out (kB HB.out));(case side2=>exact HC0.out);rintro e w23 ⟨v321,rfl,ho0,hb⟩;refine⟨_,rfl,?_⟩;have HO322:=mk0 (Kd.R_lower (Kd.R_new' ho0 (Kd.R_lt (by (with_reducible repeat (first|apply aR|apply nR|apply dR));exact (Kd.R_mono (Kd.R_far (p:=⟨gb319,2,none⟩) (Kd.R_far (p:=⟨gb319,1,none⟩) (Kd.R_far (p:=⟨gb319,0,none⟩) (Kd.R_types HO311.out BK319.out (by decide)) (fun _ hk=>hk.2) (.int .i64 t315)) (fun _ hk=>hk.2) (.int .i64 t316)) (fun _ hk=>hk.2) (.int .i64 t317)) (fun _ h_=>h_.1))))) (kZ HB.out));replace HO311:=mk0 (Kd.R_elder' (by (with_reducible repeat (first|apply aR|apply nR|apply dR));exact (Kd.R_mono (Kd.R_far (p:=⟨gb319,2,none⟩) (Kd.R_far (p:=⟨gb319,1,none⟩) (Kd.R_far (p:=⟨gb319,0,none⟩) (Kd.R_types HO311.out BK319.out (by decide)) (fun _ hk=>hk.2) (.int .i64 t315)) (fun _ hk=>hk.2) (.int .i64 t316)) (fun _ hk=>hk.2) (.int .i64 t317)) (fun _ h_=>h_.1))) (Kd.R_base ho0) hb);replace BK308:=mk0 (blk_below (g:=gb308) (o:=.cells #[.int .i64 a1_0,.int .i64 a1_1,.int .i64 a1_2] 24 (0,0)) (by (with_reducible repeat (first|apply nB|apply dB|apply aB));refine blk_far ?_ NB308_319.out _;(with_reducible repeat (first|apply nB|apply dB|apply aB));refine blk_far ?_ NB308_319.out _;(with_reducible repeat (first|apply nB|apply dB|apply aB));refine blk_far ?_ NB308_319.out _;(with_reducible repeat (first|apply nB|apply dB|apply aB));exact BK308.out) hb);replace BK319:=mk0 (blk_below (g:=gb319) (o:=.cells #[.int .i64 t315,.int .i64 t316,.int .i64 t317] 27 (0,0)) (by (with_reducible repeat (first|apply nB|apply dB|apply aB));refine blk_put (cs:=#[.int .i64 t315,.int .i64 t316,.int .i64 0]) ?_ 2 _ rfl;(with_reducible repeat (first|apply nB|apply dB|apply aB));refine blk_put (cs:=#[.int .i64 t315,.int .i64 0,.int .i64 0]) ?_ 1 _ rfl;(with_reducible repeat (first|apply nB|apply dB|apply aB));refine blk_put (cs:=#[.int .i64 0,.int .i64 0,.int .i64 0]) ?_ 0 _ rfl;(with_reducible repeat (first|apply nB|apply dB|apply aB));exact BK319.out) hb);replace HB:=mk0 (kS HB.out hb);(try clear hb);(try clear ho0);have hnb24:=NB308_319.out;have hnc24:=NB319_308.out;obtain⟨hcz25_0,hcz25_1,hcz25_2,hfz25_0,hfz25_1,hfz25_2⟩:=cz3 BK308.out)|((with_reducible refine gate_callee (f:=13) rfl ?_);refine goesL_ (some 26) rfl rfl Try.func13 (by kernel_rfl) rfl #[.agg #[.int .i64 a1_0,.int .i64 a1_1,.int .i64 a1_2]] rfl (by (try simp only [mA,mC,mN]);first|done|rfl|(simp only [List.length_drop,List.length_take];done)|(simp only [List.length_drop,List.length_take];rfl)) ?_;(with_reducible refine (laws_toStretch.calls a1_0 a1_1 a1_2 t323 t324 t325 _ A9.out).mono ?_);rintro e w26 ⟨rfl,hb⟩;refine⟨_,rfl,?_⟩;replace HO311:=mk0 (bR HO311.out hb);replace HO322:=mk0 (bR HO322.out hb);replace BK308:=mk0 (kK BK308.out hb);replace BK319:=mk0 (kK BK319.out hb);replace HB:=mk0 (kS HB.out hb);(try clear hb);obtain⟨Ao27,co27,eo27⟩:=Kd.R_slice HO322.out;subst eo27)|((with_reducible refine gate_callee (f:=31) rfl ?_);refine goesL_ (some 27) rfl rfl Try.func31 (by kernel_rfl) rfl #[.slice Ao27 t320.length co27,.agg #[.int .i64 t323,.int .i64 t324,.int .i64 t325]] rfl (by (try simp only [mA,mC,mN]);first|done|rfl|(simp only [List.length_drop,List.length_take];done)|(simp only [List.length_drop,List.length_take];rfl)) ?_;(with_reducible refine (impl_StretchUp.calls k _ _ t320 t323 t324 t325 t326 t327 t328 t329 _ ?side1 ?side2 A10.out).mono ?_);(case side1=>exact kC (Kd.R_reads' HO322.out).2.2);(case side2=>exact (Kd.R_reads' HO322.out).2.1);rintro e w28 ⟨rfl,hb⟩;refine⟨_,rfl,?_⟩;replace HO311:=mk0 (bR HO311.out hb);replace HO322:=mk0 (bR HO322.out hb);replace BK308:=mk0 (kK BK308.out hb);replace BK319:=mk0 (kK BK319.out hb);replace HB:=mk0 (kS HB.out hb);(try clear hb))|((with_reducible refine gate_dst (N:=8) rfl ?_);refine box_event ?hg (N:=8) ?hd (cs:=#[.int .i64 0,.int .i64 0,.int .i64 0]) (t:=27) ?hr ?_;(case hd=>rfl);(case hg=>rfl);(case hr=>first|(go_simp;done)|(go_simp;rfl));intro gb330 hg w29 hbox hb;replace HO311:=mk0 (bR HO311.out hb);replace HO322:=mk0 (bR HO322.out hb);have BK330:=mk0 (hbox);have GW330:=mk0 ((by rw [hg];exact (kZ HB.out):w.heap.size ≤ gb330));have GE330:=mk0 ((by rw [hg];exact (kZ HB.out):w.heap.size ≤ gb330));replace HB:=mk0 (kS HB.out hb);have NB308_330:=mk0 ((by rw [hg];exact Nat.ne_of_lt (kL BK308.out):gb308 ≠ gb330));have NB330_308:=mk0 ((by rw [hg];exact Nat.ne_of_gt (kL BK308.out):gb330 ≠ gb308));replace BK308:=mk0 (kK BK308.out hb);have NB319_330:=mk0 ((by rw [hg];exact Nat.ne_of_lt (kL BK319.out):gb319 ≠ gb330));have NB330_319:=mk0 ((by rw [hg];exact Nat.ne_of_gt (kL BK319.out):gb330 ≠ gb319));replace BK319:=mk0 (kK BK319.out hb);clear hb hbox hg;have hnb30:=NB330_308.out;have hnc30:=NB308_330.out;have hnb31:=NB330_319.out;have hnc31:=NB319_330.out;obtain⟨hcz32_0,hcz32_1,hcz32_2,hfz32_0,hfz32_1,hfz32_2⟩:=cz3 BK330.out))
 (try simp only [Act.put,sA,sO,sS])
 go_cut [38] (fun v38 wc=>∃ (kq:Nat) (x38_10:Bool),v38 = .bool x38_10 ∧ Aside0 (laws_FnExactStretchUp.j0 kq l0 t320 x38_10 = some r) ∧ Aside0 (kq ≤ k) ∧ Aside0 (Kd.R (Kd.int .u8) 5 wc w.heap.size (fun _=>True) (.slice Ao27 t320.length co27) t320) ∧ Aside0 (wc.heap[gb308]? = some (.cells #[.int .i64 a1_0,.int .i64 a1_1,.int .i64 a1_2] 24 (0,0))) ∧ Aside0 (wc.heap[gb319]? = some (.cells #[.int .i64 t315,.int .i64 t316,.int .i64 t317] 27 (0,0))) ∧ Aside0 (wc.heap[gb330]? = some (.cells #[.int .i64 t326,.int .i64 t327,.int .i64 t328] 27 (0,0))) ∧ Aside0 (Below w.heap.size w wc))
 case first =>
  have H:=HC11.out
  clear HC11
  replace H:=Option.bind_eq_some_iff.mp H
  obtain⟨t331,A330,H⟩:=H
  replace H:(if t331 = true then (laws_FnExactStretchUp.j0 k l0 t320 (t329 != t318)) else (laws_FnExactStretchUp.j0 k l0 t320 true)) = some r:=H
  have A33:=mk0 A330
  clear A330
  by_cases c34:t331 = true
  ·subst c34
   have H1:(laws_FnExactStretchUp.j0 k l0 t320 (t329 != t318)) = some r:=by rw [if_pos rfl] at H;exact H
   clear H
   have H:=H1
   clear H1
   have H':=mk0 H
   clear H
   have hnb35:=NB330_308.out
   have hnc35:=NB308_330.out
   have hnb36:=NB330_319.out
   have hnc36:=NB319_330.out
   obtain⟨hcz37_0,hcz37_1,hcz37_2,hfz37_0,hfz37_1,hfz37_2⟩:=cz3 BK330.out
   have hnb38:=NB319_308.out
   have hnc38:=NB308_319.out
   obtain⟨hcz39_0,hcz39_1,hcz39_2,hfz39_0,hfz39_1,hfz39_2⟩:=cz3 BK319.out
   go_wp2_with (first|((with_reducible refine gate_callee (f:=22) rfl ?_);refine goesL_ (some 32) rfl rfl Try.func22 (by kernel_rfl) rfl #[.agg #[.int .i64 t326,.int .i64 t327,.int .i64 t328],.agg #[.int .i64 t315,.int .i64 t316,.int .i64 t317]] rfl (by (try simp only [mA,mC,mN]);first|done|rfl|(simp only [List.length_drop,List.length_take];done)|(simp only [List.length_drop,List.length_take];rfl)) ?_;(with_reducible refine (laws_eqStretch.calls t326 t327 t328 t315 t316 t317 true _ A33.out).mono ?_);rintro e w40 ⟨rfl,hb⟩;refine⟨_,rfl,?_⟩;replace HO311:=mk0 (Kd.R_below (by (with_reducible repeat (first|apply aR|apply nR|apply dR));exact (Kd.R_mono (Kd.R_far (p:=⟨gb330,2,none⟩) (Kd.R_far (p:=⟨gb330,1,none⟩) (Kd.R_far (p:=⟨gb330,0,none⟩) (Kd.R_types HO311.out BK330.out (by decide)) (fun _ hk=>hk.2) (.int .i64 t326)) (fun _ hk=>hk.2) (.int .i64 t327)) (fun _ hk=>hk.2) (.int .i64 t328)) (fun _ h_=>h_.1))) hb);replace HO322:=mk0 (Kd.R_below (by (with_reducible repeat (first|apply aR|apply nR|apply dR));exact (Kd.R_mono (Kd.R_far (p:=⟨gb330,2,none⟩) (Kd.R_far (p:=⟨gb330,1,none⟩) (Kd.R_far (p:=⟨gb330,0,none⟩) (Kd.R_types HO322.out BK330.out (by decide)) (fun _ hk=>hk.2) (.int .i64 t326)) (fun _ hk=>hk.2) (.int .i64 t327)) (fun _ hk=>hk.2) (.int .i64 t328)) (fun _ h_=>h_.1))) hb);replace BK308:=mk0 (blk_below (g:=gb308) (o:=.cells #[.int .i64 a1_0,.int .i64 a1_1,.int .i64 a1_2] 24 (0,0)) (by (with_reducible repeat (first|apply nB|apply dB|apply aB));refine blk_far ?_ NB308_330.out _;(with_reducible repeat (first|apply nB|apply dB|apply aB));refine blk_far ?_ NB308_330.out _;(with_reducible repeat (first|apply nB|apply dB|apply aB));refine blk_far ?_ NB308_330.out _;(with_reducible repeat (first|apply nB|apply dB|apply aB));exact BK308.out) hb);replace BK319:=mk0 (blk_below (g:=gb319) (o:=.cells #[.int .i64 t315,.int .i64 t316,.int .i64 t317] 27 (0,0)) (by (with_reducible repeat (first|apply nB|apply dB|apply aB));refine blk_far ?_ NB319_330.out _;(with_reducible repeat (first|apply nB|apply dB|apply aB));refine blk_far ?_ NB319_330.out _;(with_reducible repeat (first|apply nB|apply dB|apply aB));refine blk_far ?_ NB319_330.out _;(with_reducible repeat (first|apply nB|apply dB|apply aB));exact BK319.out) hb);replace BK330:=mk0 (blk_below (g:=gb330) (o:=.cells #[.int .i64 t326,.int .i64 t327,.int .i64 t328] 27 (0,0)) (by (with_reducible repeat (first|apply nB|apply dB|apply aB));refine blk_put (cs:=#[.int .i64 t326,.int .i64 t327,.int .i64 0]) ?_ 2 _ rfl;(with_reducible repeat (first|apply nB|apply dB|apply aB));refine blk_put (cs:=#[.int .i64 t326,.int .i64 0,.int .i64 0]) ?_ 1 _ rfl;(with_reducible repeat (first|apply nB|apply dB|apply aB));refine blk_put (cs:=#[.int .i64 0,.int .i64 0,.int .i64 0]) ?_ 0 _ rfl;(with_reducible repeat (first|apply nB|apply dB|apply aB));exact BK330.out) hb);replace HB:=mk0 (kS HB.out hb);(try clear hb)))
   go_meet
   case rel=>exact⟨_,((t329 != t318)),(by first|rfl|(simp;done)|(simp [*];done)),H',⟨by first|omega|exact Nat.le_refl _⟩,⟨rR (Kd.R_mono HO322.out (fun _ hk=>trivial))⟩,⟨kN BK308.out⟩,⟨kN BK319.out⟩,⟨kN BK330.out⟩,⟨kB HB.out⟩⟩
  replace c34:=Bool.eq_false_iff.mpr c34
  subst c34
  have H1:(laws_FnExactStretchUp.j0 k l0 t320 true) = some r:=by rw [if_neg (show ¬ (false = true) by decide)] at H;exact H
  clear H
  have H:=H1
  clear H1
  have H':=mk0 H
  clear H
  have hnb41:=NB330_308.out
  have hnc41:=NB308_330.out
  have hnb42:=NB330_319.out
  have hnc42:=NB319_330.out
  obtain⟨hcz43_0,hcz43_1,hcz43_2,hfz43_0,hfz43_1,hfz43_2⟩:=cz3 BK330.out
  have hnb44:=NB319_308.out
  have hnc44:=NB308_319.out
  obtain⟨hcz45_0,hcz45_1,hcz45_2,hfz45_0,hfz45_1,hfz45_2⟩:=cz3 BK319.out
  go_wp2_with (first|((with_reducible refine gate_callee (f:=22) rfl ?_);refine goesL_ (some 32) rfl rfl Try.func22 (by kernel_rfl) rfl #[.agg #[.int .i64 t326,.int .i64 t327,.int .i64 t328],.agg #[.int .i64 t315,.int .i64 t316,.int .i64 t317]] rfl (by (try simp only [mA,mC,mN]);first|done|rfl|(simp only [List.length_drop,List.length_take];done)|(simp only [List.length_drop,List.length_take];rfl)) ?_;(with_reducible refine (laws_eqStretch.calls t326 t327 t328 t315 t316 t317 false _ A33.out).mono ?_);rintro e w46 ⟨rfl,hb⟩;refine⟨_,rfl,?_⟩;replace HO311:=mk0 (Kd.R_below (by (with_reducible repeat (first|apply aR|apply nR|apply dR));exact (Kd.R_mono (Kd.R_far (p:=⟨gb330,2,none⟩) (Kd.R_far (p:=⟨gb330,1,none⟩) (Kd.R_far (p:=⟨gb330,0,none⟩) (Kd.R_types HO311.out BK330.out (by decide)) (fun _ hk=>hk.2) (.int .i64 t326)) (fun _ hk=>hk.2) (.int .i64 t327)) (fun _ hk=>hk.2) (.int .i64 t328)) (fun _ h_=>h_.1))) hb);replace HO322:=mk0 (Kd.R_below (by (with_reducible repeat (first|apply aR|apply nR|apply dR));exact (Kd.R_mono (Kd.R_far (p:=⟨gb330,2,none⟩) (Kd.R_far (p:=⟨gb330,1,none⟩) (Kd.R_far (p:=⟨gb330,0,none⟩) (Kd.R_types HO322.out BK330.out (by decide)) (fun _ hk=>hk.2) (.int .i64 t326)) (fun _ hk=>hk.2) (.int .i64 t327)) (fun _ hk=>hk.2) (.int .i64 t328)) (fun _ h_=>h_.1))) hb);replace BK308:=mk0 (blk_below (g:=gb308) (o:=.cells #[.int .i64 a1_0,.int .i64 a1_1,.int .i64 a1_2] 24 (0,0)) (by (with_reducible repeat (first|apply nB|apply dB|apply aB));refine blk_far ?_ NB308_330.out _;(with_reducible repeat (first|apply nB|apply dB|apply aB));refine blk_far ?_ NB308_330.out _;(with_reducible repeat (first|apply nB|apply dB|apply aB));refine blk_far ?_ NB308_330.out _;(with_reducible repeat (first|apply nB|apply dB|apply aB));exact BK308.out) hb);replace BK319:=mk0 (blk_below (g:=gb319) (o:=.cells #[.int .i64 t315,.int .i64 t316,.int .i64 t317] 27 (0,0)) (by (with_reducible repeat (first|apply nB|apply dB|apply aB));refine blk_far ?_ NB319_330.out _;(with_reducible repeat (first|apply nB|apply dB|apply aB));refine blk_far ?_ NB319_330.out _;(with_reducible repeat (first|apply nB|apply dB|apply aB));refine blk_far ?_ NB319_330.out _;(with_reducible repeat (first|apply nB|apply dB|apply aB));exact BK319.out) hb);replace BK330:=mk0 (blk_below (g:=gb330) (o:=.cells #[.int .i64 t326,.int .i64 t327,.int .i64 t328] 27 (0,0)) (by (with_reducible repeat (first|apply nB|apply dB|apply aB));refine blk_put (cs:=#[.int .i64 t326,.int .i64 t327,.int .i64 0]) ?_ 2 _ rfl;(with_reducible repeat (first|apply nB|apply dB|apply aB));refine blk_put (cs:=#[.int .i64 t326,.int .i64 0,.int .i64 0]) ?_ 1 _ rfl;(with_reducible repeat (first|apply nB|apply dB|apply aB));refine blk_put (cs:=#[.int .i64 0,.int .i64 0,.int .i64 0]) ?_ 0 _ rfl;(with_reducible repeat (first|apply nB|apply dB|apply aB));exact BK330.out) hb);replace HB:=mk0 (kS HB.out hb);(try clear hb)))
  go_meet
  case rel=>exact⟨_,(true),(by first|rfl|(simp;done)|(simp [*];done)),H',⟨by first|omega|exact Nat.le_refl _⟩,⟨rR (Kd.R_mono HO322.out (fun _ hk=>trivial))⟩,⟨kN BK308.out⟩,⟨kN BK319.out⟩,⟨kN BK330.out⟩,⟨kB HB.out⟩⟩
 case rest =>
  clear HC11
  try clear c1
  try clear c2
  try clear p2
  try clear c3
  try clear c4
  try clear c12
  try clear c13
  try clear c22
  try clear c24
  try clear c30
  try clear c31
  try clear c34
  try clear c35
  try clear c36
  try clear c38
  try clear c41
  try clear c42
  try clear c44
  try clear hcz25_0
  try clear hcz25_1
  try clear hcz25_2
  try clear hcz32_0
  try clear hcz32_1
  try clear hcz32_2
  try clear hcz37_0
  try clear hcz37_1
  try clear hcz37_2
  try clear hcz39_0
  try clear hcz39_1
  try clear hcz39_2
  try clear hcz43_0
  try clear hcz43_1
  try clear hcz43_2
  try clear hcz45_0
  try clear hcz45_1
  try clear hcz45_2
  try clear hfz25_0
  try clear hfz25_1
  try clear hfz25_2
  try clear hfz32_0
  try clear hfz32_1
  try clear hfz32_2
  try clear hfz37_0
  try clear hfz37_1
  try clear hfz37_2
  try clear hfz39_0
  try clear hfz39_1
  try clear hfz39_2
  try clear hfz43_0
  try clear hfz43_1
  try clear hfz43_2
  try clear hfz45_0
  try clear hfz45_1
  try clear hfz45_2
  obtain⟨kq,x38_10,rfl,HA,HJ10,HO_7,BK308,BK319,BK330,HB⟩:=hcut
  cases kq with
  | zero=>exact absurd HA.out (by simp [laws_FnExactStretchUp.j0])
  | succ kj10 =>
   have H:=HA.out
   clear HA
   simp only [laws_FnExactStretchUp.j0] at H
   by_cases c47:x38_10 = true
   ·subst c47
    have H1:(some false) = some r:=by rw [if_pos rfl] at H;exact H
    clear H
    have H:=H1
    clear H1
    obtain rfl:=Option.some.inj H
    go_wp2
    go_ret
    exact⟨by first|rfl|(simp [errW_none,errW_some] <;> rfl)|(simp [*,errW_none,errW_some] <;> rfl),kB HB.out⟩
   replace c47:=Bool.eq_false_iff.mpr c47
   subst c47
   have H1:((laws_toByteS.f kj10 l0).bind fun t332=>((laws_eqByteS.f kj10 t320 t332).bind fun t335=>(if t335 = true then (some true) else (some false)))) = some r:=by rw [if_neg (show ¬ (false = true) by decide)] at H;exact H
   clear H
   have H:=H1
   clear H1
   replace H:=Option.bind_eq_some_iff.mp H
   obtain⟨t332,A480,H⟩:=H
   replace H:((laws_eqByteS.f kj10 t320 t332).bind fun t335=>(if t335 = true then (some true) else (some false))) = some r:=H
   have A48:=mk0 A480
   clear A480
   replace H:=Option.bind_eq_some_iff.mp H
   obtain⟨t335,A490,H⟩:=H
   replace H:(if t335 = true then (some true) else (some false)) = some r:=H
   have A49:=mk0 A490
   clear A490
   by_cases c50:t335 = true
   ·subst c50
    have H1:(some true) = some r:=by rw [if_pos rfl] at H;exact H
    clear H
    have H:=H1
    clear H1
    obtain rfl:=Option.some.inj H
    go_wp2_with (first|((with_reducible refine gate_callee (f:=12) rfl ?_);refine goesL_ (some 41) rfl rfl Try.func12 (by kernel_rfl) rfl #[.slice A0 l0.length c0] rfl (by (try simp only [mA,mC,mN]);first|done|rfl|(simp only [List.length_drop,List.length_take];done)|(simp only [List.length_drop,List.length_take];rfl)) ?_;(with_reducible refine (laws_toByteS.calls kj10 _ _ l0 t332 _ ?side1 ?side2 A48.out).mono ?_);(case side1=>exact kC (Kd.C_below HR0.out HB.out));(case side2=>exact HC0.out);rintro e w51 ⟨v333,rfl,ho0,hb⟩;refine⟨_,rfl,?_⟩;have HO334:=mk0 (Kd.R_lower (Kd.R_new' ho0 (Kd.R_lt (rR HO_7.out))) (kZ HB.out));replace HO_7:=mk0 (Kd.R_elder' (rR HO_7.out) (Kd.R_base ho0) hb);replace BK308:=mk0 (kK BK308.out hb);replace BK319:=mk0 (kK BK319.out hb);replace BK330:=mk0 (kK BK330.out hb);replace HB:=mk0 (kS HB.out hb);(try clear hb);(try clear ho0);obtain⟨Ao52,co52,eo52⟩:=Kd.R_slice HO334.out;subst eo52)|((with_reducible refine gate_callee (f:=15) rfl ?_);refine goesL_ (some 42) rfl rfl Try.func15 (by kernel_rfl) rfl #[.slice Ao27 t320.length co27,.slice Ao52 t332.length co52] rfl (by (try simp only [mA,mC,mN]);first|done|rfl|(simp only [List.length_drop,List.length_take];done)|(simp only [List.length_drop,List.length_take];rfl)) ?_;(with_reducible refine (laws_eqByteS.calls kj10 _ _ t320 _ _ t332 true _ ?side1 ?side2 ?side3 ?side4 A49.out).mono ?_);(case side1=>exact kC (Kd.R_reads' HO_7.out).2.2);(case side2=>exact (Kd.R_reads' HO_7.out).2.1);(case side3=>exact kC (Kd.R_reads' HO334.out).2.2);(case side4=>exact (Kd.R_reads' HO334.out).2.1);rintro e w' ⟨rfl,⟨nd,rfl⟩⟩;refine⟨_,rfl,?_⟩))
    go_ret
    exact⟨by first|rfl|(simp [errW_none,errW_some] <;> rfl)|(simp [*,errW_none,errW_some] <;> rfl),kB HB.out⟩
   replace c50:=Bool.eq_false_iff.mpr c50
   subst c50
   have H1:(some false) = some r:=by rw [if_neg (show ¬ (false = true) by decide)] at H;exact H
   clear H
   have H:=H1
   clear H1
   obtain rfl:=Option.some.inj H
   go_wp2_with (first|((with_reducible refine gate_callee (f:=12) rfl ?_);refine goesL_ (some 41) rfl rfl Try.func12 (by kernel_rfl) rfl #[.slice A0 l0.length c0] rfl (by (try simp only [mA,mC,mN]);first|done|rfl|(simp only [List.length_drop,List.length_take];done)|(simp only [List.length_drop,List.length_take];rfl)) ?_;(with_reducible refine (laws_toByteS.calls kj10 _ _ l0 t332 _ ?side1 ?side2 A48.out).mono ?_);(case side1=>exact kC (Kd.C_below HR0.out HB.out));(case side2=>exact HC0.out);rintro e w53 ⟨v333,rfl,ho0,hb⟩;refine⟨_,rfl,?_⟩;have HO334:=mk0 (Kd.R_lower (Kd.R_new' ho0 (Kd.R_lt (rR HO_7.out))) (kZ HB.out));replace HO_7:=mk0 (Kd.R_elder' (rR HO_7.out) (Kd.R_base ho0) hb);replace BK308:=mk0 (kK BK308.out hb);replace BK319:=mk0 (kK BK319.out hb);replace BK330:=mk0 (kK BK330.out hb);replace HB:=mk0 (kS HB.out hb);(try clear hb);(try clear ho0);obtain⟨Ao54,co54,eo54⟩:=Kd.R_slice HO334.out;subst eo54)|((with_reducible refine gate_callee (f:=15) rfl ?_);refine goesL_ (some 42) rfl rfl Try.func15 (by kernel_rfl) rfl #[.slice Ao27 t320.length co27,.slice Ao54 t332.length co54] rfl (by (try simp only [mA,mC,mN]);first|done|rfl|(simp only [List.length_drop,List.length_take];done)|(simp only [List.length_drop,List.length_take];rfl)) ?_;(with_reducible refine (laws_eqByteS.calls kj10 _ _ t320 _ _ t332 false _ ?side1 ?side2 ?side3 ?side4 A49.out).mono ?_);(case side1=>exact kC (Kd.R_reads' HO_7.out).2.2);(case side2=>exact (Kd.R_reads' HO_7.out).2.1);(case side3=>exact kC (Kd.R_reads' HO334.out).2.2);(case side4=>exact (Kd.R_reads' HO334.out).2.1);rintro e w' ⟨rfl,⟨nd,rfl⟩⟩;refine⟨_,rfl,?_⟩))
   go_ret
   exact⟨by first|rfl|(simp [errW_none,errW_some] <;> rfl)|(simp [*,errW_none,errW_some] <;> rfl),kB HB.out⟩

/-- The plain statement of laws_FnExactStretchUp. -/
def laws_FnExactStretchUp.Pure : Prop := ∀ (l0 : List Int) (a1_0 : Int) (a1_1 : Int) (a1_2 : Int), (Fv.OkL (Fv.OkI .u8)) l0 → ok24 ((⟨a1_0, a1_1, a1_2⟩ : S24)) → ∃ k, laws_FnExactStretchUp.f k l0 a1_0 a1_1 a1_2 = some true

end Go.Proofs.Ytoinagnieobbpaa.QFnExactStretchUp
