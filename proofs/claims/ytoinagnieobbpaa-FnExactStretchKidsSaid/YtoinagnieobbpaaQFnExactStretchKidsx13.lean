-- A walk, made by walk.py, a program of this session's.
import Derived.Test.YtoinagnieobbpaaQFnExactStretchKidsx0
import Derived.Test.YtoinagnieobbpaaQFnExactStretchKidsx2
import Derived.Test.YtoinagnieobbpaaQFnExactStretchKidsx3
import Derived.Test.YtoinagnieobbpaaQFnExactStretchKidsx8
import Derived.Test.YtoinagnieobbpaaQFnExactStretchKidsx12
namespace Go.Proofs.Ytoinagnieobbpaa.QFnExactStretchKids
open Go.RowKit Go.Proofs.YtoinagnieobbpaaW.PrintWords Go.Proofs.YtoinagnieobbpaaW.PrintLast Go.Proofs.YtoinagnieobbpaaW.PrintMore
attribute [local go_sem] max2_int min2_int max_two min_two max_three min_three max_four min_four   -- for this text's walks alone
set_option linter.unusedVariables false
set_option linter.unusedSimpArgs false

/-! ### laws_FnExactStretchKids: function 9 -/
def laws_FnExactStretchKids.j0 : Nat → List Int → List (S27) → List (S27) → Bool → Int → Int → Int → Option (Bool)
 | 0, _, _, _, _, _, _, _ => none
 | k + 1, x0, x5, x7, x45, x317000, x317001, x317002 => if x45 = true then (some false) else ((laws_markStretchS.f k x7 1).bind fun bt343 => ((laws_heldStretchS.f k bt343.2 1).bind fun t345 => (if t345 < 0 then (some false) else (if t345 = bt343.1 then ((laws_toByteS.f k x0).bind fun t346 => ((laws_toStretch.f x317000 x317001 x317002).bind fun bt349 => ((impl_StretchKids.f k t346 bt349.1 bt349.2.1 bt349.2.2).bind fun t352 => ((laws_eqStretchS.f k t352 x5).bind fun t355 => (if t355 = true then ((laws_heldStretchS.f k bt343.2 1).bind fun t356 => (if t356 < 0 then (some false) else (if t356 = bt343.1 then (some true) else (some false)))) else (some false)))))) else (some false)))))
def laws_FnExactStretchKids.f (k : Nat) (l0 : List Int) (a1_0 : Int) (a1_1 : Int) (a1_2 : Int) : Option (Bool) := if (l0.length : Int) > 1048576 then (some true) else ((laws_toByteS.f k l0).bind fun t317 => ((laws_toStretch.f a1_0 a1_1 a1_2).bind fun bt320 => ((spec_StretchKids.f k t317 bt320.1 bt320.2.1 bt320.2.2).bind fun t323 => ((laws_toByteS.f k l0).bind fun t326 => ((laws_toStretch.f a1_0 a1_1 a1_2).bind fun bt329 => ((impl_StretchKids.f k t326 bt329.1 bt329.2.1 bt329.2.2).bind fun t332 => ((laws_eqStretchS.f k t332 t323).bind fun t335 => (if t335 = true then ((laws_toByteS.f k l0).bind fun t336 => ((laws_eqByteS.f k t326 t336).bind fun t339 => (if t339 = true then ((laws_markByteS.f k t326 1).bind fun bt340 => (if bt340.1 < 0 then (laws_FnExactStretchKids.j0 k l0 t323 t332 true a1_0 a1_1 a1_2) else ((laws_eqStretchS.f k t332 t323).bind fun t342 => (laws_FnExactStretchKids.j0 k l0 t323 t332 (!t342) a1_0 a1_1 a1_2)))) else (some false)))) else (some false)))))))))
theorem laws_FnExactStretchKids.mono_l : ∀ k, (∀ y0 y1 y2 y3 y4 y5 y6, LeO (laws_FnExactStretchKids.j0 k y0 y1 y2 y3 y4 y5 y6) (laws_FnExactStretchKids.j0 (k + 1) y0 y1 y2 y3 y4 y5 y6))
 | 0 => fun _ _ _ _ _ _ _ r h => by simp [laws_FnExactStretchKids.j0] at h
 | k + 1 => by
  have ih0 := laws_FnExactStretchKids.mono_l k
  ·intro y0 y1 y2 y3 y4 y5 y6
   unfold laws_FnExactStretchKids.j0
   repeat' first|(with_reducible first|exact ih0 _ _ _ _ _ _ _|exact impl_StretchKids.mono _ _ _ _ _|exact laws_eqByteS.mono _ _ _|exact laws_eqStretchS.mono _ _ _|exact laws_heldStretchS.mono _ _ _|exact laws_markByteS.mono _ _ _|exact laws_markStretchS.mono _ _ _|exact laws_toByteS.mono _ _|exact spec_StretchKids.mono _ _ _ _ _|exact LeO.refl _|exact LeO.none _|refine LeO.ite ?_ ?_|refine LeO.bind ?_ (fun _ => ?_))|exact LeO.none _|refine LeO.ite ?_ ?_|refine LeO.bind ?_ (fun _ => ?_)
theorem laws_FnExactStretchKids.mono : ∀ a0 a1 a2 a3 k, LeO (laws_FnExactStretchKids.f k a0 a1 a2 a3) (laws_FnExactStretchKids.f (k + 1) a0 a1 a2 a3) := by
 intro a0 a1 a2 a3 k
 have ih0 := laws_FnExactStretchKids.mono_l k
 unfold laws_FnExactStretchKids.f
 repeat' first|(with_reducible first|exact ih0 _ _ _ _ _ _ _|exact impl_StretchKids.mono _ _ _ _ _|exact laws_eqByteS.mono _ _ _|exact laws_eqStretchS.mono _ _ _|exact laws_heldStretchS.mono _ _ _|exact laws_markByteS.mono _ _ _|exact laws_markStretchS.mono _ _ _|exact laws_toByteS.mono _ _|exact spec_StretchKids.mono _ _ _ _ _|exact LeO.refl _|exact LeO.none _|refine LeO.ite ?_ ?_|refine LeO.bind ?_ (fun _ => ?_))|exact LeO.none _|refine LeO.ite ?_ ?_|refine LeO.bind ?_ (fun _ => ?_)
set_option maxHeartbeats 8000000 in
set_option maxRecDepth 100000 in
theorem laws_FnExactStretchKids.calls (k : Nat) (A0 : Option Addr) (c0 : Nat) (l0 : List Int) (a1_0 : Int) (a1_1 : Int) (a1_2 : Int) (r : Bool) (w : World) (hr0 : Kd.C (Kd.int .u8) w A0 l0.length l0) (hc0 : l0.length ≤ c0) (h : laws_FnExactStretchKids.f k l0 a1_0 a1_1 a1_2 = some r) :
  Calls Try.prog 9 #[.slice A0 l0.length c0, .agg #[.int .i64 a1_0, .int .i64 a1_1, .int .i64 a1_2]] w fun e w' => e = .returned (.bool r) ∧ Below w.heap.size w w' := by
 have hu24:=Try.underlying24
 have HR0:=mk0 hr0
 have HC0:=mk0 hc0
 clear hr0 hc0
 have HB:=mk0 (Below.refl w.heap.size w)
 have H:(if (l0.length:Int) > 1048576 then (some true) else ((laws_toByteS.f k l0).bind fun t317=>((laws_toStretch.f a1_0 a1_1 a1_2).bind fun bt320=>((spec_StretchKids.f k t317 bt320.1 bt320.2.1 bt320.2.2).bind fun t323=>((laws_toByteS.f k l0).bind fun t326=>((laws_toStretch.f a1_0 a1_1 a1_2).bind fun bt329=>((impl_StretchKids.f k t326 bt329.1 bt329.2.1 bt329.2.2).bind fun t332=>((laws_eqStretchS.f k t332 t323).bind fun t335=>(if t335 = true then ((laws_toByteS.f k l0).bind fun t336=>((laws_eqByteS.f k t326 t336).bind fun t339=>(if t339 = true then ((laws_markByteS.f k t326 1).bind fun bt340=>(if bt340.1 < 0 then (laws_FnExactStretchKids.j0 k l0 t323 t332 true a1_0 a1_1 a1_2) else ((laws_eqStretchS.f k t332 t323).bind fun t342=>(laws_FnExactStretchKids.j0 k l0 t323 t332 (!t342) a1_0 a1_1 a1_2)))) else (some false)))) else (some false)))))))))) = some r:=h
 clear h
 by_cases c3:(l0.length:Int) > 1048576
 ·rw [if_pos c3] at H
  have c3b0:decide (1048576 < (l0.length:Int)) = true:=decide_eq_true c3
  have c3b1:decide (1048576 < l0.length) = true:=decide_eq_true (by omega)
  clear c3
  obtain rfl:=Option.some.inj H
  go_enter Try.func9,Try.ntmps9
  go_wp2_with (first|((with_reducible refine gate_dst (N:=3) rfl ?_);refine box_event ?hg (N:=3) ?hd (cs:=#[.int .i64 a1_0,.int .i64 a1_1,.int .i64 a1_2]) (t:=24) ?hr ?_;(case hd=>rfl);(case hg=>rfl);(case hr=>first|(go_simp;done)|(go_simp;rfl));intro gb316 hg w4 hbox hb;have BK316:=mk0 (hbox);have GW316:=mk0 ((by rw [hg];exact (kZ HB.out):w.heap.size ≤ gb316));have GE316:=mk0 ((by rw [hg];exact (kZ HB.out):w.heap.size ≤ gb316));replace HB:=mk0 (kS HB.out hb);clear hb hbox hg))
  go_ret
  exact⟨by first|rfl|(simp [errW_none,errW_some] <;> rfl)|(simp [*,errW_none,errW_some] <;> rfl),kB HB.out⟩
 rw [if_neg c3] at H
 have c3b0:decide (1048576 < (l0.length:Int)) = false:=decide_eq_false c3
 have c3b1:decide (1048576 < l0.length) = false:=decide_eq_false (by omega)
 clear c3
 replace H:=Option.bind_eq_some_iff.mp H
 obtain⟨t317,A50,H⟩:=H
 replace H:((laws_toStretch.f a1_0 a1_1 a1_2).bind fun bt320=>((spec_StretchKids.f k t317 bt320.1 bt320.2.1 bt320.2.2).bind fun t323=>((laws_toByteS.f k l0).bind fun t326=>((laws_toStretch.f a1_0 a1_1 a1_2).bind fun bt329=>((impl_StretchKids.f k t326 bt329.1 bt329.2.1 bt329.2.2).bind fun t332=>((laws_eqStretchS.f k t332 t323).bind fun t335=>(if t335 = true then ((laws_toByteS.f k l0).bind fun t336=>((laws_eqByteS.f k t326 t336).bind fun t339=>(if t339 = true then ((laws_markByteS.f k t326 1).bind fun bt340=>(if bt340.1 < 0 then (laws_FnExactStretchKids.j0 k l0 t323 t332 true a1_0 a1_1 a1_2) else ((laws_eqStretchS.f k t332 t323).bind fun t342=>(laws_FnExactStretchKids.j0 k l0 t323 t332 (!t342) a1_0 a1_1 a1_2)))) else (some false)))) else (some false)))))))) = some r:=H
 have A5:=mk0 A50
 clear A50
 replace H:=Option.bind_eq_some_iff.mp H
 obtain⟨⟨t320,t321,t322⟩,A60,H⟩:=H
 replace H:((spec_StretchKids.f k t317 t320 t321 t322).bind fun t323=>((laws_toByteS.f k l0).bind fun t326=>((laws_toStretch.f a1_0 a1_1 a1_2).bind fun bt329=>((impl_StretchKids.f k t326 bt329.1 bt329.2.1 bt329.2.2).bind fun t332=>((laws_eqStretchS.f k t332 t323).bind fun t335=>(if t335 = true then ((laws_toByteS.f k l0).bind fun t336=>((laws_eqByteS.f k t326 t336).bind fun t339=>(if t339 = true then ((laws_markByteS.f k t326 1).bind fun bt340=>(if bt340.1 < 0 then (laws_FnExactStretchKids.j0 k l0 t323 t332 true a1_0 a1_1 a1_2) else ((laws_eqStretchS.f k t332 t323).bind fun t342=>(laws_FnExactStretchKids.j0 k l0 t323 t332 (!t342) a1_0 a1_1 a1_2)))) else (some false)))) else (some false))))))) = some r:=H
 have A6:=mk0 A60
 clear A60
 replace H:=Option.bind_eq_some_iff.mp H
 obtain⟨t323,A70,H⟩:=H
 replace H:((laws_toByteS.f k l0).bind fun t326=>((laws_toStretch.f a1_0 a1_1 a1_2).bind fun bt329=>((impl_StretchKids.f k t326 bt329.1 bt329.2.1 bt329.2.2).bind fun t332=>((laws_eqStretchS.f k t332 t323).bind fun t335=>(if t335 = true then ((laws_toByteS.f k l0).bind fun t336=>((laws_eqByteS.f k t326 t336).bind fun t339=>(if t339 = true then ((laws_markByteS.f k t326 1).bind fun bt340=>(if bt340.1 < 0 then (laws_FnExactStretchKids.j0 k l0 t323 t332 true a1_0 a1_1 a1_2) else ((laws_eqStretchS.f k t332 t323).bind fun t342=>(laws_FnExactStretchKids.j0 k l0 t323 t332 (!t342) a1_0 a1_1 a1_2)))) else (some false)))) else (some false)))))) = some r:=H
 have A7:=mk0 A70
 clear A70
 replace H:=Option.bind_eq_some_iff.mp H
 obtain⟨t326,A80,H⟩:=H
 replace H:((laws_toStretch.f a1_0 a1_1 a1_2).bind fun bt329=>((impl_StretchKids.f k t326 bt329.1 bt329.2.1 bt329.2.2).bind fun t332=>((laws_eqStretchS.f k t332 t323).bind fun t335=>(if t335 = true then ((laws_toByteS.f k l0).bind fun t336=>((laws_eqByteS.f k t326 t336).bind fun t339=>(if t339 = true then ((laws_markByteS.f k t326 1).bind fun bt340=>(if bt340.1 < 0 then (laws_FnExactStretchKids.j0 k l0 t323 t332 true a1_0 a1_1 a1_2) else ((laws_eqStretchS.f k t332 t323).bind fun t342=>(laws_FnExactStretchKids.j0 k l0 t323 t332 (!t342) a1_0 a1_1 a1_2)))) else (some false)))) else (some false))))) = some r:=H
 have A8:=mk0 A80
 clear A80
 replace H:=Option.bind_eq_some_iff.mp H
 obtain⟨⟨t329,t330,t331⟩,A90,H⟩:=H
 replace H:((impl_StretchKids.f k t326 t329 t330 t331).bind fun t332=>((laws_eqStretchS.f k t332 t323).bind fun t335=>(if t335 = true then ((laws_toByteS.f k l0).bind fun t336=>((laws_eqByteS.f k t326 t336).bind fun t339=>(if t339 = true then ((laws_markByteS.f k t326 1).bind fun bt340=>(if bt340.1 < 0 then (laws_FnExactStretchKids.j0 k l0 t323 t332 true a1_0 a1_1 a1_2) else ((laws_eqStretchS.f k t332 t323).bind fun t342=>(laws_FnExactStretchKids.j0 k l0 t323 t332 (!t342) a1_0 a1_1 a1_2)))) else (some false)))) else (some false)))) = some r:=H
 have A9:=mk0 A90
 clear A90
 replace H:=Option.bind_eq_some_iff.mp H
 obtain⟨t332,A100,H⟩:=H
 replace H:((laws_eqStretchS.f k t332 t323).bind fun t335=>(if t335 = true then ((laws_toByteS.f k l0).bind fun t336=>((laws_eqByteS.f k t326 t336).bind fun t339=>(if t339 = true then ((laws_markByteS.f k t326 1).bind fun bt340=>(if bt340.1 < 0 then (laws_FnExactStretchKids.j0 k l0 t323 t332 true a1_0 a1_1 a1_2) else ((laws_eqStretchS.f k t332 t323).bind fun t342=>(laws_FnExactStretchKids.j0 k l0 t323 t332 (!t342) a1_0 a1_1 a1_2)))) else (some false)))) else (some false))) = some r:=H
 have A10:=mk0 A100
 clear A100
 replace H:=Option.bind_eq_some_iff.mp H
 obtain⟨t335,A110,H⟩:=H
 replace H:(if t335 = true then ((laws_toByteS.f k l0).bind fun t336=>((laws_eqByteS.f k t326 t336).bind fun t339=>(if t339 = true then ((laws_markByteS.f k t326 1).bind fun bt340=>(if bt340.1 < 0 then (laws_FnExactStretchKids.j0 k l0 t323 t332 true a1_0 a1_1 a1_2) else ((laws_eqStretchS.f k t332 t323).bind fun t342=>(laws_FnExactStretchKids.j0 k l0 t323 t332 (!t342) a1_0 a1_1 a1_2)))) else (some false)))) else (some false)) = some r:=H
 have A11:=mk0 A110
 clear A110
 by_cases c12:t335 = true
 rotate_left
 ·replace c12:=Bool.eq_false_iff.mpr c12
  subst c12
  have H1:(some false) = some r:=by rw [if_neg (show ¬ (false = true) by decide)] at H;exact H
  clear H
  have H:=H1
  clear H1
  obtain rfl:=Option.some.inj H
  go_enter Try.func9,Try.ntmps9
  try go_wp2_with (first|((with_reducible refine gate_dst (N:=3) rfl ?_);refine box_event ?hg (N:=3) ?hd (cs:=#[.int .i64 a1_0,.int .i64 a1_1,.int .i64 a1_2]) (t:=24) ?hr ?_;(case hd=>rfl);(case hg=>rfl);(case hr=>first|(go_simp;done)|(go_simp;rfl));intro gb316 hg w101 hbox hb;have BK316:=mk0 (hbox);have GW316:=mk0 ((by rw [hg];exact (kZ HB.out):w.heap.size ≤ gb316));have GE316:=mk0 ((by rw [hg];exact (kZ HB.out):w.heap.size ≤ gb316));replace HB:=mk0 (kS HB.out hb);clear hb hbox hg))
  replace BK316:=mk0 (dB BK316.out)
  replace HB:=mk0 (dZ HB.out)
  refine start_ (n:=6) (S:=fun w'=>w'.cell? ⟨gb316,0,none⟩ = some (.int .i64 a1_0) ∧ w'.cell? ⟨gb316,1,none⟩ = some (.int .i64 a1_1) ∧ w'.cell? ⟨gb316,2,none⟩ = some (.int .i64 a1_2)) (ds:=[]) #[false,false,false,false,false,false] (by kernel_rfl) rfl rfl (ck3 BK316.out) (fun hHeld=>?_)
  generalize w101.drew = w102 at BK316 HB hHeld ⊢
  refine pure_ (i:=0) (N:=some 15) (v:=?_) (a':=?_) #[true,false,false,false,false,false] rfl rfl (by kernel_rfl) (fun _ _ _ h=>h) (Or.inl ⟨by rfl,?_⟩) ?_ ?_
  rotate_left
  ·intro w'
   go_simp
   with_reducible rfl
  rotate_left
  ·simp only [Act.put,sA,sO,sS,i64_w,i32_w]
   rfl
  refine take_ (i:=2) (N:=some 17) (v:=?_) (a':=?_) #[true,false,true,false,false,false] rfl rfl (by kernel_rfl) (fun _ _ _ h=>h) (Or.inl ⟨by rfl,?_⟩) hHeld ?_ ?_
  rotate_left
  ·rintro w' ⟨s0,s1,s2⟩
   go_simp
   with_reducible rfl
  rotate_left
  ·simp only [Act.put,sA,sO,sS,i64_w,i32_w]
   rfl
  refine one_ (i:=1) (N:=some 16) #[true,true,true,false,false,false] rfl rfl (by kernel_rfl) (by decide) (fun K hK=>?_)
  refine goes_ Try.func12 (by kernel_rfl) rfl #[.slice A0 l0.length c0] (by rfl) rfl rfl (by (try simp only [mA,mC,mN]);first|done|rfl|(simp only [List.length_drop,List.length_take];done)|(simp only [List.length_drop,List.length_take];rfl)) ?_
  with_reducible refine (laws_toByteS.calls k _ _ l0 t317 _ ?side1 ?side2 A5.out).mono ?_
  (case side1=>exact kC (Kd.C_below HR0.out HB.out))
  (case side2=>exact HC0.out)
  rintro e w103 ⟨v318,rfl,ho0,hb⟩
  refine⟨_,rfl,?_⟩
  have HO319:=mk0 (Kd.R_lower ho0 (kZ HB.out))
  replace BK316:=mk0 (kK BK316.out hb)
  replace HB:=mk0 (kS HB.out hb)
  (try clear hb)
  (try clear ho0)
  refine hK.out _ _ (ck3 BK316.out) (fun hHeld=>?_)
  clear hK K
  refine norm_ (a':=?_) ?_ ?_
  rotate_left
  ·show Act.put _ (some 16) _ = _
   simp only [Act.put,sA,sO,sS,i64_w,i32_w]
   rfl
  refine one_ (i:=3) (N:=some 18) #[true,true,true,true,false,false] rfl rfl (by kernel_rfl) (by decide) (fun K hK=>?_)
  refine goes_ Try.func13 (by kernel_rfl) rfl #[.agg #[.int .i64 a1_0,.int .i64 a1_1,.int .i64 a1_2]] (by rfl) rfl rfl (by (try simp only [mA,mC,mN]);first|done|rfl|(simp only [List.length_drop,List.length_take];done)|(simp only [List.length_drop,List.length_take];rfl)) ?_
  with_reducible refine (laws_toStretch.calls a1_0 a1_1 a1_2 t320 t321 t322 _ A6.out).mono ?_
  rintro e w104 ⟨rfl,hb⟩
  refine⟨_,rfl,?_⟩
  replace HO319:=mk0 (bR HO319.out hb)
  replace BK316:=mk0 (kK BK316.out hb)
  replace HB:=mk0 (kS HB.out hb)
  (try clear hb)
  obtain⟨Ao105,co105,eo105⟩:=Kd.R_slice HO319.out
  (first|subst eo105|(injection eo105 with f1_ f2_ f3_;have f4_:=f1_.symm;have f5_:=f3_.symm;clear f1_ f2_ f3_;subst f4_;subst f5_))
  refine hK.out _ _ (ck3 BK316.out) (fun hHeld=>?_)
  clear hK K
  refine norm_ (a':=?_) ?_ ?_
  rotate_left
  ·show Act.put _ (some 18) _ = _
   simp only [Act.put,sA,sO,sS,i64_w,i32_w]
   rfl
  refine one_ (i:=4) (N:=some 19) #[true,true,true,true,true,false] rfl rfl (by kernel_rfl) (by decide) (fun K hK=>?_)
  refine goes_ Try.func32 (by kernel_rfl) rfl #[.slice Ao105 t317.length co105,.agg #[.int .i64 t320,.int .i64 t321,.int .i64 t322]] (by rfl) rfl rfl (by (try simp only [mA,mC,mN]);first|done|rfl|(simp only [List.length_drop,List.length_take];done)|(simp only [List.length_drop,List.length_take];rfl)) ?_
  with_reducible refine (spec_StretchKids.calls k _ _ t317 t320 t321 t322 t323 _ ?side1 ?side2 A7.out).mono ?_
  (case side1=>exact kC (Kd.R_reads' HO319.out).2.2)
  (case side2=>exact (Kd.R_reads' HO319.out).2.1)
  rintro e w106 ⟨v324,rfl,ho0,hb⟩
  refine⟨_,rfl,?_⟩
  replace HO319:=mk0 (bR HO319.out hb)
  have HO325:=mk0 (Kd.R_lower ho0 (kZ HB.out))
  replace BK316:=mk0 (kK BK316.out hb)
  replace HB:=mk0 (kS HB.out hb)
  (try clear hb)
  (try clear ho0)
  refine hK.out _ _ (ck3 BK316.out) (fun hHeld=>?_)
  clear hK K
  refine norm_ (a':=?_) ?_ ?_
  rotate_left
  ·show Act.put _ (some 19) _ = _
   simp only [Act.put,sA,sO,sS,i64_w,i32_w]
   rfl
  refine pure_ (i:=5) (N:=some 5) (v:=?_) (a':=?_) #[true,true,true,true,true,true] rfl rfl (by kernel_rfl) (fun _ _ _ h=>h) (Or.inl ⟨by rfl,?_⟩) ?_ ?_
  rotate_left
  ·intro w'
   go_simp
   with_reducible rfl
  rotate_left
  ·simp only [Act.put,sA,sO,sS,i64_w,i32_w]
   rfl
  refine done_ (by kernel_rfl) ?_
  try go_wp2_with (first|((with_reducible refine gate_callee (f:=12) rfl ?_);refine goesL_ (some 21) rfl rfl Try.func12 (by kernel_rfl) rfl #[.slice A0 l0.length c0] rfl (by (try simp only [mA,mC,mN]);first|done|rfl|(simp only [List.length_drop,List.length_take];done)|(simp only [List.length_drop,List.length_take];rfl)) ?_;(with_reducible refine (laws_toByteS.calls k _ _ l0 t326 _ ?side1 ?side2 A8.out).mono ?_);(case side1=>exact kC (Kd.C_below HR0.out HB.out));(case side2=>exact HC0.out);rintro e w107 ⟨v327,rfl,ho0,hb⟩;refine⟨_,rfl,?_⟩;replace HO325:=mk0 (bR HO325.out hb);have HO328:=mk0 (Kd.R_lower (Kd.R_new' ho0 (Kd.R_lt (rR HO319.out))) (kZ HB.out));replace HO319:=mk0 (Kd.R_elder' (rR HO319.out) (Kd.R_base ho0) hb);replace BK316:=mk0 (kK BK316.out hb);replace HB:=mk0 (kS HB.out hb);(try clear hb);(try clear ho0);obtain⟨hcz108_0,hcz108_1,hcz108_2,hfz108_0,hfz108_1,hfz108_2⟩:=cz3 BK316.out)|((with_reducible refine gate_callee (f:=13) rfl ?_);refine goesL_ (some 24) rfl rfl Try.func13 (by kernel_rfl) rfl #[.agg #[.int .i64 a1_0,.int .i64 a1_1,.int .i64 a1_2]] rfl (by (try simp only [mA,mC,mN]);first|done|rfl|(simp only [List.length_drop,List.length_take];done)|(simp only [List.length_drop,List.length_take];rfl)) ?_;(with_reducible refine (laws_toStretch.calls a1_0 a1_1 a1_2 t329 t330 t331 _ A9.out).mono ?_);rintro e w109 ⟨rfl,hb⟩;refine⟨_,rfl,?_⟩;replace HO319:=mk0 (bR HO319.out hb);replace HO325:=mk0 (bR HO325.out hb);replace HO328:=mk0 (bR HO328.out hb);replace BK316:=mk0 (kK BK316.out hb);replace HB:=mk0 (kS HB.out hb);(try clear hb);obtain⟨Ao110,co110,eo110⟩:=Kd.R_slice HO328.out;subst eo110)|((with_reducible refine gate_callee (f:=33) rfl ?_);refine goesL_ (some 25) rfl rfl Try.func33 (by kernel_rfl) rfl #[.slice Ao110 t326.length co110,.agg #[.int .i64 t329,.int .i64 t330,.int .i64 t331]] rfl (by (try simp only [mA,mC,mN]);first|done|rfl|(simp only [List.length_drop,List.length_take];done)|(simp only [List.length_drop,List.length_take];rfl)) ?_;(with_reducible refine (impl_StretchKids.calls k _ _ t326 t329 t330 t331 t332 _ ?side1 ?side2 A10.out).mono ?_);(case side1=>exact kC (Kd.R_reads' HO328.out).2.2);(case side2=>exact (Kd.R_reads' HO328.out).2.1);rintro e w111 ⟨v333,rfl,ho0,hb⟩;refine⟨_,rfl,?_⟩;replace HO319:=mk0 (bR HO319.out hb);replace HO328:=mk0 (bR HO328.out hb);have HO334:=mk0 (Kd.R_lower (Kd.R_new' ho0 (Kd.R_lt (rR HO325.out))) (kZ HB.out));replace HO325:=mk0 (Kd.R_elder' (rR HO325.out) (Kd.R_base ho0) hb);replace BK316:=mk0 (kK BK316.out hb);replace HB:=mk0 (kS HB.out hb);(try clear hb);(try clear ho0);obtain⟨Ao112,co112,eo112⟩:=Kd.R_slice HO334.out;subst eo112;obtain⟨Ao113,co113,eo113⟩:=Kd.R_slice HO325.out;subst eo113)|((with_reducible refine gate_callee (f:=27) rfl ?_);refine goesL_ (some 28) rfl rfl Try.func27 (by kernel_rfl) rfl #[.slice Ao112 t332.length co112,.slice Ao113 t323.length co113] rfl (by (try simp only [mA,mC,mN]);first|done|rfl|(simp only [List.length_drop,List.length_take];done)|(simp only [List.length_drop,List.length_take];rfl)) ?_;(with_reducible refine (laws_eqStretchS.calls k _ _ t332 _ _ t323 false _ ?side1 ?side2 ?side3 ?side4 A11.out).mono ?_);(case side1=>exact kC (Kd.R_reads' HO334.out).2.2);(case side2=>exact (Kd.R_reads' HO334.out).2.1);(case side3=>exact kC (Kd.R_reads' HO325.out).2.2);(case side4=>exact (Kd.R_reads' HO325.out).2.1);rintro e w114 ⟨rfl,hb⟩;refine⟨_,rfl,?_⟩;replace HO319:=mk0 (bR HO319.out hb);replace HO325:=mk0 (bR HO325.out hb);replace HO328:=mk0 (bR HO328.out hb);replace HO334:=mk0 (bR HO334.out hb);replace BK316:=mk0 (kK BK316.out hb);replace HB:=mk0 (kS HB.out hb);(try clear hb)))
  go_ret
  exact⟨by first|rfl|(simp [errW_none,errW_some] <;> rfl)|(simp [*,errW_none,errW_some] <;> rfl),kB HB.out⟩

 subst c12
 have H1:((laws_toByteS.f k l0).bind fun t336=>((laws_eqByteS.f k t326 t336).bind fun t339=>(if t339 = true then ((laws_markByteS.f k t326 1).bind fun bt340=>(if bt340.1 < 0 then (laws_FnExactStretchKids.j0 k l0 t323 t332 true a1_0 a1_1 a1_2) else ((laws_eqStretchS.f k t332 t323).bind fun t342=>(laws_FnExactStretchKids.j0 k l0 t323 t332 (!t342) a1_0 a1_1 a1_2)))) else (some false)))) = some r:=by rw [if_pos rfl] at H;exact H
 clear H
 have H:=H1
 clear H1
 replace H:=Option.bind_eq_some_iff.mp H
 obtain⟨t336,A130,H⟩:=H
 replace H:((laws_eqByteS.f k t326 t336).bind fun t339=>(if t339 = true then ((laws_markByteS.f k t326 1).bind fun bt340=>(if bt340.1 < 0 then (laws_FnExactStretchKids.j0 k l0 t323 t332 true a1_0 a1_1 a1_2) else ((laws_eqStretchS.f k t332 t323).bind fun t342=>(laws_FnExactStretchKids.j0 k l0 t323 t332 (!t342) a1_0 a1_1 a1_2)))) else (some false))) = some r:=H
 have A13:=mk0 A130
 clear A130
 replace H:=Option.bind_eq_some_iff.mp H
 obtain⟨t339,A140,H⟩:=H
 replace H:(if t339 = true then ((laws_markByteS.f k t326 1).bind fun bt340=>(if bt340.1 < 0 then (laws_FnExactStretchKids.j0 k l0 t323 t332 true a1_0 a1_1 a1_2) else ((laws_eqStretchS.f k t332 t323).bind fun t342=>(laws_FnExactStretchKids.j0 k l0 t323 t332 (!t342) a1_0 a1_1 a1_2)))) else (some false)) = some r:=H
 have A14:=mk0 A140
 clear A140
 by_cases c15:t339 = true
 rotate_left
 ·replace c15:=Bool.eq_false_iff.mpr c15
  subst c15
  have H1:(some false) = some r:=by rw [if_neg (show ¬ (false = true) by decide)] at H;exact H
  clear H
  have H:=H1
  clear H1
  obtain rfl:=Option.some.inj H
  go_enter Try.func9,Try.ntmps9
  try go_wp2_with (first|((with_reducible refine gate_dst (N:=3) rfl ?_);refine box_event ?hg (N:=3) ?hd (cs:=#[.int .i64 a1_0,.int .i64 a1_1,.int .i64 a1_2]) (t:=24) ?hr ?_;(case hd=>rfl);(case hg=>rfl);(case hr=>first|(go_simp;done)|(go_simp;rfl));intro gb316 hg w85 hbox hb;have BK316:=mk0 (hbox);have GW316:=mk0 ((by rw [hg];exact (kZ HB.out):w.heap.size ≤ gb316));have GE316:=mk0 ((by rw [hg];exact (kZ HB.out):w.heap.size ≤ gb316));replace HB:=mk0 (kS HB.out hb);clear hb hbox hg))
  replace BK316:=mk0 (dB BK316.out)
  replace HB:=mk0 (dZ HB.out)
  refine start_ (n:=6) (S:=fun w'=>w'.cell? ⟨gb316,0,none⟩ = some (.int .i64 a1_0) ∧ w'.cell? ⟨gb316,1,none⟩ = some (.int .i64 a1_1) ∧ w'.cell? ⟨gb316,2,none⟩ = some (.int .i64 a1_2)) (ds:=[]) #[false,false,false,false,false,false] (by kernel_rfl) rfl rfl (ck3 BK316.out) (fun hHeld=>?_)
  generalize w85.drew = w86 at BK316 HB hHeld ⊢
  refine pure_ (i:=0) (N:=some 15) (v:=?_) (a':=?_) #[true,false,false,false,false,false] rfl rfl (by kernel_rfl) (fun _ _ _ h=>h) (Or.inl ⟨by rfl,?_⟩) ?_ ?_
  rotate_left
  ·intro w'
   go_simp
   with_reducible rfl
  rotate_left
  ·simp only [Act.put,sA,sO,sS,i64_w,i32_w]
   rfl
  refine take_ (i:=2) (N:=some 17) (v:=?_) (a':=?_) #[true,false,true,false,false,false] rfl rfl (by kernel_rfl) (fun _ _ _ h=>h) (Or.inl ⟨by rfl,?_⟩) hHeld ?_ ?_
  rotate_left
  ·rintro w' ⟨s0,s1,s2⟩
   go_simp
   with_reducible rfl
  rotate_left
  ·simp only [Act.put,sA,sO,sS,i64_w,i32_w]
   rfl
  refine one_ (i:=1) (N:=some 16) #[true,true,true,false,false,false] rfl rfl (by kernel_rfl) (by decide) (fun K hK=>?_)
  refine goes_ Try.func12 (by kernel_rfl) rfl #[.slice A0 l0.length c0] (by rfl) rfl rfl (by (try simp only [mA,mC,mN]);first|done|rfl|(simp only [List.length_drop,List.length_take];done)|(simp only [List.length_drop,List.length_take];rfl)) ?_
  with_reducible refine (laws_toByteS.calls k _ _ l0 t317 _ ?side1 ?side2 A5.out).mono ?_
  (case side1=>exact kC (Kd.C_below HR0.out HB.out))
  (case side2=>exact HC0.out)
  rintro e w87 ⟨v318,rfl,ho0,hb⟩
  refine⟨_,rfl,?_⟩
  have HO319:=mk0 (Kd.R_lower ho0 (kZ HB.out))
  replace BK316:=mk0 (kK BK316.out hb)
  replace HB:=mk0 (kS HB.out hb)
  (try clear hb)
  (try clear ho0)
  refine hK.out _ _ (ck3 BK316.out) (fun hHeld=>?_)
  clear hK K
  refine norm_ (a':=?_) ?_ ?_
  rotate_left
  ·show Act.put _ (some 16) _ = _
   simp only [Act.put,sA,sO,sS,i64_w,i32_w]
   rfl
  refine one_ (i:=3) (N:=some 18) #[true,true,true,true,false,false] rfl rfl (by kernel_rfl) (by decide) (fun K hK=>?_)
  refine goes_ Try.func13 (by kernel_rfl) rfl #[.agg #[.int .i64 a1_0,.int .i64 a1_1,.int .i64 a1_2]] (by rfl) rfl rfl (by (try simp only [mA,mC,mN]);first|done|rfl|(simp only [List.length_drop,List.length_take];done)|(simp only [List.length_drop,List.length_take];rfl)) ?_
  with_reducible refine (laws_toStretch.calls a1_0 a1_1 a1_2 t320 t321 t322 _ A6.out).mono ?_
  rintro e w88 ⟨rfl,hb⟩
  refine⟨_,rfl,?_⟩
  replace HO319:=mk0 (bR HO319.out hb)
  replace BK316:=mk0 (kK BK316.out hb)
  replace HB:=mk0 (kS HB.out hb)
  (try clear hb)
  obtain⟨Ao89,co89,eo89⟩:=Kd.R_slice HO319.out
  (first|subst eo89|(injection eo89 with f1_ f2_ f3_;have f4_:=f1_.symm;have f5_:=f3_.symm;clear f1_ f2_ f3_;subst f4_;subst f5_))
  refine hK.out _ _ (ck3 BK316.out) (fun hHeld=>?_)
  clear hK K
  refine norm_ (a':=?_) ?_ ?_
  rotate_left
  ·show Act.put _ (some 18) _ = _
   simp only [Act.put,sA,sO,sS,i64_w,i32_w]
   rfl
  refine one_ (i:=4) (N:=some 19) #[true,true,true,true,true,false] rfl rfl (by kernel_rfl) (by decide) (fun K hK=>?_)
  refine goes_ Try.func32 (by kernel_rfl) rfl #[.slice Ao89 t317.length co89,.agg #[.int .i64 t320,.int .i64 t321,.int .i64 t322]] (by rfl) rfl rfl (by (try simp only [mA,mC,mN]);first|done|rfl|(simp only [List.length_drop,List.length_take];done)|(simp only [List.length_drop,List.length_take];rfl)) ?_
  with_reducible refine (spec_StretchKids.calls k _ _ t317 t320 t321 t322 t323 _ ?side1 ?side2 A7.out).mono ?_
  (case side1=>exact kC (Kd.R_reads' HO319.out).2.2)
  (case side2=>exact (Kd.R_reads' HO319.out).2.1)
  rintro e w90 ⟨v324,rfl,ho0,hb⟩
  refine⟨_,rfl,?_⟩
  replace HO319:=mk0 (bR HO319.out hb)
  have HO325:=mk0 (Kd.R_lower ho0 (kZ HB.out))
  replace BK316:=mk0 (kK BK316.out hb)
  replace HB:=mk0 (kS HB.out hb)
  (try clear hb)
  (try clear ho0)
  refine hK.out _ _ (ck3 BK316.out) (fun hHeld=>?_)
  clear hK K
  refine norm_ (a':=?_) ?_ ?_
  rotate_left
  ·show Act.put _ (some 19) _ = _
   simp only [Act.put,sA,sO,sS,i64_w,i32_w]
   rfl
  refine pure_ (i:=5) (N:=some 5) (v:=?_) (a':=?_) #[true,true,true,true,true,true] rfl rfl (by kernel_rfl) (fun _ _ _ h=>h) (Or.inl ⟨by rfl,?_⟩) ?_ ?_
  rotate_left
  ·intro w'
   go_simp
   with_reducible rfl
  rotate_left
  ·simp only [Act.put,sA,sO,sS,i64_w,i32_w]
   rfl
  refine done_ (by kernel_rfl) ?_
  try go_wp2_with (first|((with_reducible refine gate_callee (f:=12) rfl ?_);refine goesL_ (some 21) rfl rfl Try.func12 (by kernel_rfl) rfl #[.slice A0 l0.length c0] rfl (by (try simp only [mA,mC,mN]);first|done|rfl|(simp only [List.length_drop,List.length_take];done)|(simp only [List.length_drop,List.length_take];rfl)) ?_;(with_reducible refine (laws_toByteS.calls k _ _ l0 t326 _ ?side1 ?side2 A8.out).mono ?_);(case side1=>exact kC (Kd.C_below HR0.out HB.out));(case side2=>exact HC0.out);rintro e w91 ⟨v327,rfl,ho0,hb⟩;refine⟨_,rfl,?_⟩;replace HO325:=mk0 (bR HO325.out hb);have HO328:=mk0 (Kd.R_lower (Kd.R_new' ho0 (Kd.R_lt (rR HO319.out))) (kZ HB.out));replace HO319:=mk0 (Kd.R_elder' (rR HO319.out) (Kd.R_base ho0) hb);replace BK316:=mk0 (kK BK316.out hb);replace HB:=mk0 (kS HB.out hb);(try clear hb);(try clear ho0);obtain⟨hcz92_0,hcz92_1,hcz92_2,hfz92_0,hfz92_1,hfz92_2⟩:=cz3 BK316.out)|((with_reducible refine gate_callee (f:=13) rfl ?_);refine goesL_ (some 24) rfl rfl Try.func13 (by kernel_rfl) rfl #[.agg #[.int .i64 a1_0,.int .i64 a1_1,.int .i64 a1_2]] rfl (by (try simp only [mA,mC,mN]);first|done|rfl|(simp only [List.length_drop,List.length_take];done)|(simp only [List.length_drop,List.length_take];rfl)) ?_;(with_reducible refine (laws_toStretch.calls a1_0 a1_1 a1_2 t329 t330 t331 _ A9.out).mono ?_);rintro e w93 ⟨rfl,hb⟩;refine⟨_,rfl,?_⟩;replace HO319:=mk0 (bR HO319.out hb);replace HO325:=mk0 (bR HO325.out hb);replace HO328:=mk0 (bR HO328.out hb);replace BK316:=mk0 (kK BK316.out hb);replace HB:=mk0 (kS HB.out hb);(try clear hb);obtain⟨Ao94,co94,eo94⟩:=Kd.R_slice HO328.out;subst eo94)|((with_reducible refine gate_callee (f:=33) rfl ?_);refine goesL_ (some 25) rfl rfl Try.func33 (by kernel_rfl) rfl #[.slice Ao94 t326.length co94,.agg #[.int .i64 t329,.int .i64 t330,.int .i64 t331]] rfl (by (try simp only [mA,mC,mN]);first|done|rfl|(simp only [List.length_drop,List.length_take];done)|(simp only [List.length_drop,List.length_take];rfl)) ?_;(with_reducible refine (impl_StretchKids.calls k _ _ t326 t329 t330 t331 t332 _ ?side1 ?side2 A10.out).mono ?_);(case side1=>exact kC (Kd.R_reads' HO328.out).2.2);(case side2=>exact (Kd.R_reads' HO328.out).2.1);rintro e w95 ⟨v333,rfl,ho0,hb⟩;refine⟨_,rfl,?_⟩;replace HO319:=mk0 (bR HO319.out hb);replace HO328:=mk0 (bR HO328.out hb);have HO334:=mk0 (Kd.R_lower (Kd.R_new' ho0 (Kd.R_lt (rR HO325.out))) (kZ HB.out));replace HO325:=mk0 (Kd.R_elder' (rR HO325.out) (Kd.R_base ho0) hb);replace BK316:=mk0 (kK BK316.out hb);replace HB:=mk0 (kS HB.out hb);(try clear hb);(try clear ho0);obtain⟨Ao96,co96,eo96⟩:=Kd.R_slice HO334.out;subst eo96;obtain⟨Ao97,co97,eo97⟩:=Kd.R_slice HO325.out;subst eo97)|((with_reducible refine gate_callee (f:=27) rfl ?_);refine goesL_ (some 28) rfl rfl Try.func27 (by kernel_rfl) rfl #[.slice Ao96 t332.length co96,.slice Ao97 t323.length co97] rfl (by (try simp only [mA,mC,mN]);first|done|rfl|(simp only [List.length_drop,List.length_take];done)|(simp only [List.length_drop,List.length_take];rfl)) ?_;(with_reducible refine (laws_eqStretchS.calls k _ _ t332 _ _ t323 true _ ?side1 ?side2 ?side3 ?side4 A11.out).mono ?_);(case side1=>exact kC (Kd.R_reads' HO334.out).2.2);(case side2=>exact (Kd.R_reads' HO334.out).2.1);(case side3=>exact kC (Kd.R_reads' HO325.out).2.2);(case side4=>exact (Kd.R_reads' HO325.out).2.1);rintro e w98 ⟨rfl,hb⟩;refine⟨_,rfl,?_⟩;replace HO319:=mk0 (bR HO319.out hb);replace HO325:=mk0 (bR HO325.out hb);replace HO328:=mk0 (bR HO328.out hb);replace HO334:=mk0 (bR HO334.out hb);replace BK316:=mk0 (kK BK316.out hb);replace HB:=mk0 (kS HB.out hb);(try clear hb))|((with_reducible refine gate_callee (f:=12) rfl ?_);refine goesL_ (some 32) rfl rfl Try.func12 (by kernel_rfl) rfl #[.slice A0 l0.length c0] rfl (by (try simp only [mA,mC,mN]);first|done|rfl|(simp only [List.length_drop,List.length_take];done)|(simp only [List.length_drop,List.length_take];rfl)) ?_;(with_reducible refine (laws_toByteS.calls k _ _ l0 t336 _ ?side1 ?side2 A13.out).mono ?_);(case side1=>exact kC (Kd.C_below HR0.out HB.out));(case side2=>exact HC0.out);rintro e w99 ⟨v337,rfl,ho0,hb⟩;refine⟨_,rfl,?_⟩;replace HO325:=mk0 (bR HO325.out hb);replace HO334:=mk0 (bR HO334.out hb);have HO338:=mk0 (Kd.R_lower (Kd.R_new' (Kd.R_new' ho0 (Kd.R_lt (rR HO319.out))) (Kd.R_lt (rR HO328.out))) (kZ HB.out));replace HO319:=mk0 (Kd.R_elder' (rR HO319.out) (Kd.R_base ho0) hb);replace HO328:=mk0 (Kd.R_elder' (rR HO328.out) (Kd.R_base ho0) hb);replace BK316:=mk0 (kK BK316.out hb);replace HB:=mk0 (kS HB.out hb);(try clear hb);(try clear ho0);obtain⟨Ao100,co100,eo100⟩:=Kd.R_slice HO338.out;subst eo100)|((with_reducible refine gate_callee (f:=15) rfl ?_);refine goesL_ (some 33) rfl rfl Try.func15 (by kernel_rfl) rfl #[.slice Ao94 t326.length co94,.slice Ao100 t336.length co100] rfl (by (try simp only [mA,mC,mN]);first|done|rfl|(simp only [List.length_drop,List.length_take];done)|(simp only [List.length_drop,List.length_take];rfl)) ?_;(with_reducible refine (laws_eqByteS.calls k _ _ t326 _ _ t336 false _ ?side1 ?side2 ?side3 ?side4 A14.out).mono ?_);(case side1=>exact kC (Kd.R_reads' HO328.out).2.2);(case side2=>exact (Kd.R_reads' HO328.out).2.1);(case side3=>exact kC (Kd.R_reads' HO338.out).2.2);(case side4=>exact (Kd.R_reads' HO338.out).2.1);rintro e w' ⟨rfl,⟨nd,rfl⟩⟩;refine⟨_,rfl,?_⟩))
  go_ret
  exact⟨by first|rfl|(simp [errW_none,errW_some] <;> rfl)|(simp [*,errW_none,errW_some] <;> rfl),kB HB.out⟩
 subst c15
 have H1:((laws_markByteS.f k t326 1).bind fun bt340=>(if bt340.1 < 0 then (laws_FnExactStretchKids.j0 k l0 t323 t332 true a1_0 a1_1 a1_2) else ((laws_eqStretchS.f k t332 t323).bind fun t342=>(laws_FnExactStretchKids.j0 k l0 t323 t332 (!t342) a1_0 a1_1 a1_2)))) = some r:=by rw [if_pos rfl] at H;exact H
 clear H
 have H:=H1
 clear H1
 replace H:=Option.bind_eq_some_iff.mp H
 obtain⟨⟨t340,t341⟩,A160,H⟩:=H
 replace H:(if t340 < 0 then (laws_FnExactStretchKids.j0 k l0 t323 t332 true a1_0 a1_1 a1_2) else ((laws_eqStretchS.f k t332 t323).bind fun t342=>(laws_FnExactStretchKids.j0 k l0 t323 t332 (!t342) a1_0 a1_1 a1_2))) = some r:=H
 have A16:=mk0 A160
 clear A160
 have HC17:=mk0 H
 clear H
 go_enter Try.func9,Try.ntmps9
 try go_wp2_with (first|((with_reducible refine gate_dst (N:=3) rfl ?_);refine box_event ?hg (N:=3) ?hd (cs:=#[.int .i64 a1_0,.int .i64 a1_1,.int .i64 a1_2]) (t:=24) ?hr ?_;(case hd=>rfl);(case hg=>rfl);(case hr=>first|(go_simp;done)|(go_simp;rfl));intro gb316 hg w18 hbox hb;have BK316:=mk0 (hbox);have GW316:=mk0 ((by rw [hg];exact (kZ HB.out):w.heap.size ≤ gb316));have GE316:=mk0 ((by rw [hg];exact (kZ HB.out):w.heap.size ≤ gb316));replace HB:=mk0 (kS HB.out hb);clear hb hbox hg))
 replace BK316:=mk0 (dB BK316.out)
 replace HB:=mk0 (dZ HB.out)
 refine start_ (n:=6) (S:=fun w'=>w'.cell? ⟨gb316,0,none⟩ = some (.int .i64 a1_0) ∧ w'.cell? ⟨gb316,1,none⟩ = some (.int .i64 a1_1) ∧ w'.cell? ⟨gb316,2,none⟩ = some (.int .i64 a1_2)) (ds:=[]) #[false,false,false,false,false,false] (by kernel_rfl) rfl rfl (ck3 BK316.out) (fun hHeld=>?_)
 generalize w18.drew = w19 at BK316 HB hHeld ⊢
 refine pure_ (i:=0) (N:=some 15) (v:=?_) (a':=?_) #[true,false,false,false,false,false] rfl rfl (by kernel_rfl) (fun _ _ _ h=>h) (Or.inl ⟨by rfl,?_⟩) ?_ ?_
 rotate_left
 ·intro w'
  go_simp
  with_reducible rfl
 rotate_left
 ·simp only [Act.put,sA,sO,sS,i64_w,i32_w]
  rfl
 refine take_ (i:=2) (N:=some 17) (v:=?_) (a':=?_) #[true,false,true,false,false,false] rfl rfl (by kernel_rfl) (fun _ _ _ h=>h) (Or.inl ⟨by rfl,?_⟩) hHeld ?_ ?_
 rotate_left
 ·rintro w' ⟨s0,s1,s2⟩
  go_simp
  with_reducible rfl
 rotate_left
 ·simp only [Act.put,sA,sO,sS,i64_w,i32_w]
  rfl
 refine one_ (i:=1) (N:=some 16) #[true,true,true,false,false,false] rfl rfl (by kernel_rfl) (by decide) (fun K hK=>?_)
 refine goes_ Try.func12 (by kernel_rfl) rfl #[.slice A0 l0.length c0] (by rfl) rfl rfl (by (try simp only [mA,mC,mN]);first|done|rfl|(simp only [List.length_drop,List.length_take];done)|(simp only [List.length_drop,List.length_take];rfl)) ?_
 with_reducible refine (laws_toByteS.calls k _ _ l0 t317 _ ?side1 ?side2 A5.out).mono ?_
 (case side1=>exact kC (Kd.C_below HR0.out HB.out))
 (case side2=>exact HC0.out)
 rintro e w20 ⟨v318,rfl,ho0,hb⟩
 refine⟨_,rfl,?_⟩
 have HO319:=mk0 (Kd.R_lower ho0 (kZ HB.out))
 replace BK316:=mk0 (kK BK316.out hb)
 replace HB:=mk0 (kS HB.out hb)
 (try clear hb)
 (try clear ho0)
 refine hK.out _ _ (ck3 BK316.out) (fun hHeld=>?_)
 clear hK K
 refine norm_ (a':=?_) ?_ ?_
 rotate_left
 ·show Act.put _ (some 16) _ = _
  simp only [Act.put,sA,sO,sS,i64_w,i32_w]
  rfl
 refine one_ (i:=3) (N:=some 18) #[true,true,true,true,false,false] rfl rfl (by kernel_rfl) (by decide) (fun K hK=>?_)
 refine goes_ Try.func13 (by kernel_rfl) rfl #[.agg #[.int .i64 a1_0,.int .i64 a1_1,.int .i64 a1_2]] (by rfl) rfl rfl (by (try simp only [mA,mC,mN]);first|done|rfl|(simp only [List.length_drop,List.length_take];done)|(simp only [List.length_drop,List.length_take];rfl)) ?_
 with_reducible refine (laws_toStretch.calls a1_0 a1_1 a1_2 t320 t321 t322 _ A6.out).mono ?_
 rintro e w21 ⟨rfl,hb⟩
 refine⟨_,rfl,?_⟩
 replace HO319:=mk0 (bR HO319.out hb)
 replace BK316:=mk0 (kK BK316.out hb)
 replace HB:=mk0 (kS HB.out hb)
 (try clear hb)
 obtain⟨Ao22,co22,eo22⟩:=Kd.R_slice HO319.out
 (first|subst eo22|(injection eo22 with f1_ f2_ f3_;have f4_:=f1_.symm;have f5_:=f3_.symm;clear f1_ f2_ f3_;subst f4_;subst f5_))
 refine hK.out _ _ (ck3 BK316.out) (fun hHeld=>?_)
 clear hK K
 refine norm_ (a':=?_) ?_ ?_
 rotate_left
 ·show Act.put _ (some 18) _ = _
  simp only [Act.put,sA,sO,sS,i64_w,i32_w]
  rfl
 refine one_ (i:=4) (N:=some 19) #[true,true,true,true,true,false] rfl rfl (by kernel_rfl) (by decide) (fun K hK=>?_)
 refine goes_ Try.func32 (by kernel_rfl) rfl #[.slice Ao22 t317.length co22,.agg #[.int .i64 t320,.int .i64 t321,.int .i64 t322]] (by rfl) rfl rfl (by (try simp only [mA,mC,mN]);first|done|rfl|(simp only [List.length_drop,List.length_take];done)|(simp only [List.length_drop,List.length_take];rfl)) ?_
 with_reducible refine (spec_StretchKids.calls k _ _ t317 t320 t321 t322 t323 _ ?side1 ?side2 A7.out).mono ?_
 (case side1=>exact kC (Kd.R_reads' HO319.out).2.2)
 (case side2=>exact (Kd.R_reads' HO319.out).2.1)
 rintro e w23 ⟨v324,rfl,ho0,hb⟩
 refine⟨_,rfl,?_⟩
 replace HO319:=mk0 (bR HO319.out hb)
 have HO325:=mk0 (Kd.R_lower ho0 (kZ HB.out))
 replace BK316:=mk0 (kK BK316.out hb)
 replace HB:=mk0 (kS HB.out hb)
 (try clear hb)
 (try clear ho0)
 refine hK.out _ _ (ck3 BK316.out) (fun hHeld=>?_)
 clear hK K
 refine norm_ (a':=?_) ?_ ?_
 rotate_left
 ·show Act.put _ (some 19) _ = _
  simp only [Act.put,sA,sO,sS,i64_w,i32_w]
  rfl
 refine pure_ (i:=5) (N:=some 5) (v:=?_) (a':=?_) #[true,true,true,true,true,true] rfl rfl (by kernel_rfl) (fun _ _ _ h=>h) (Or.inl ⟨by rfl,?_⟩) ?_ ?_
 rotate_left
 ·intro w'
  go_simp
  with_reducible rfl
 rotate_left
 ·simp only [Act.put,sA,sO,sS,i64_w,i32_w]
  rfl
 refine done_ (by kernel_rfl) ?_
 go_upto_region 12 with (first|((with_reducible refine gate_callee (f:=12) rfl ?_);refine goesL_ (some 21) rfl rfl Try.func12 (by kernel_rfl) rfl #[.slice A0 l0.length c0] rfl (by (try simp only [mA,mC,mN]);first|done|rfl|(simp only [List.length_drop,List.length_take];done)|(simp only [List.length_drop,List.length_take];rfl)) ?_;(with_reducible refine (laws_toByteS.calls k _ _ l0 t326 _ ?side1 ?side2 A8.out).mono ?_);(case side1=>exact kC (Kd.C_below HR0.out HB.out));(case side2=>exact HC0.out);rintro e w24 ⟨v327,rfl,ho0,hb⟩;refine⟨_,rfl,?_⟩;replace HO325:=mk0 (bR HO325.out hb);have HO328:=mk0 (Kd.R_lower (Kd.R_new' ho0 (Kd.R_lt (rR HO319.out))) (kZ HB.out));replace HO319:=mk0 (Kd.R_elder' (rR HO319.out) (Kd.R_base ho0) hb);replace BK316:=mk0 (kK BK316.out hb);replace HB:=mk0 (kS HB.out hb);(try clear hb);(try clear ho0);obtain⟨hcz25_0,hcz25_1,hcz25_2,hfz25_0,hfz25_1,hfz25_2⟩:=cz3 BK316.out)|((with_reducible refine gate_callee (f:=13) rfl ?_);refine goesL_ (some 24) rfl rfl Try.func13 (by kernel_rfl) rfl #[.agg #[.int .i64 a1_0,.int .i64 a1_1,.int .i64 a1_2]] rfl (by (try simp only [mA,mC,mN]);first|done|rfl|(simp only [List.length_drop,List.length_take];done)|(simp only [List.length_drop,List.length_take];rfl)) ?_;(with_reducible refine (laws_toStretch.calls a1_0 a1_1 a1_2 t329 t330 t331 _ A9.out).mono ?_);rintro e w26 ⟨rfl,hb⟩;refine⟨_,rfl,?_⟩;replace HO319:=mk0 (bR HO319.out hb);replace HO325:=mk0 (bR HO325.out hb);replace HO328:=mk0 (bR HO328.out hb);replace BK316:=mk0 (kK BK316.out hb);replace HB:=mk0 (kS HB.out hb);(try clear hb);obtain⟨Ao27,co27,eo27⟩:=Kd.R_slice HO328.out;subst eo27)|((with_reducible refine gate_callee (f:=33) rfl ?_);refine goesL_ (some 25) rfl rfl Try.func33 (by kernel_rfl) rfl #[.slice Ao27 t326.length co27,.agg #[.int .i64 t329,.int .i64 t330,.int .i64 t331]] rfl (by (try simp only [mA,mC,mN]);first|done|rfl|(simp only [List.length_drop,List.length_take];done)|(simp only [List.length_drop,List.length_take];rfl)) ?_;(with_reducible refine (impl_StretchKids.calls k _ _ t326 t329 t330 t331 t332 _ ?side1 ?side2 A10.out).mono ?_);(case side1=>exact kC (Kd.R_reads' HO328.out).2.2);(case side2=>exact (Kd.R_reads' HO328.out).2.1);rintro e w28 ⟨v333,rfl,ho0,hb⟩;refine⟨_,rfl,?_⟩;replace HO319:=mk0 (bR HO319.out hb);replace HO328:=mk0 (bR HO328.out hb);have HO334:=mk0 (Kd.R_lower (Kd.R_new' ho0 (Kd.R_lt (rR HO325.out))) (kZ HB.out));replace HO325:=mk0 (Kd.R_elder' (rR HO325.out) (Kd.R_base ho0) hb);replace BK316:=mk0 (kK BK316.out hb);replace HB:=mk0 (kS HB.out hb);(try clear hb);(try clear ho0);obtain⟨Ao29,co29,eo29⟩:=Kd.R_slice HO334.out;subst eo29;obtain⟨Ao30,co30,eo30⟩:=Kd.R_slice HO325.out;subst eo30)|((with_reducible refine gate_callee (f:=27) rfl ?_);refine goesL_ (some 28) rfl rfl Try.func27 (by kernel_rfl) rfl #[.slice Ao29 t332.length co29,.slice Ao30 t323.length co30] rfl (by (try simp only [mA,mC,mN]);first|done|rfl|(simp only [List.length_drop,List.length_take];done)|(simp only [List.length_drop,List.length_take];rfl)) ?_;(with_reducible refine (laws_eqStretchS.calls k _ _ t332 _ _ t323 true _ ?side1 ?side2 ?side3 ?side4 A11.out).mono ?_);(case side1=>exact kC (Kd.R_reads' HO334.out).2.2);(case side2=>exact (Kd.R_reads' HO334.out).2.1);(case side3=>exact kC (Kd.R_reads' HO325.out).2.2);(case side4=>exact (Kd.R_reads' HO325.out).2.1);rintro e w31 ⟨rfl,hb⟩;refine⟨_,rfl,?_⟩;replace HO319:=mk0 (bR HO319.out hb);replace HO325:=mk0 (bR HO325.out hb);replace HO328:=mk0 (bR HO328.out hb);replace HO334:=mk0 (bR HO334.out hb);replace BK316:=mk0 (kK BK316.out hb);replace HB:=mk0 (kS HB.out hb);(try clear hb))|((with_reducible refine gate_callee (f:=12) rfl ?_);refine goesL_ (some 32) rfl rfl Try.func12 (by kernel_rfl) rfl #[.slice A0 l0.length c0] rfl (by (try simp only [mA,mC,mN]);first|done|rfl|(simp only [List.length_drop,List.length_take];done)|(simp only [List.length_drop,List.length_take];rfl)) ?_;(with_reducible refine (laws_toByteS.calls k _ _ l0 t336 _ ?side1 ?side2 A13.out).mono ?_);(case side1=>exact kC (Kd.C_below HR0.out HB.out));(case side2=>exact HC0.out);rintro e w32 ⟨v337,rfl,ho0,hb⟩;refine⟨_,rfl,?_⟩;replace HO325:=mk0 (bR HO325.out hb);replace HO334:=mk0 (bR HO334.out hb);have HO338:=mk0 (Kd.R_lower (Kd.R_new' (Kd.R_new' ho0 (Kd.R_lt (rR HO319.out))) (Kd.R_lt (rR HO328.out))) (kZ HB.out));replace HO319:=mk0 (Kd.R_elder' (rR HO319.out) (Kd.R_base ho0) hb);replace HO328:=mk0 (Kd.R_elder' (rR HO328.out) (Kd.R_base ho0) hb);replace BK316:=mk0 (kK BK316.out hb);replace HB:=mk0 (kS HB.out hb);(try clear hb);(try clear ho0);obtain⟨Ao33,co33,eo33⟩:=Kd.R_slice HO338.out;subst eo33)|((with_reducible refine gate_callee (f:=15) rfl ?_);refine goesL_ (some 33) rfl rfl Try.func15 (by kernel_rfl) rfl #[.slice Ao27 t326.length co27,.slice Ao33 t336.length co33] rfl (by (try simp only [mA,mC,mN]);first|done|rfl|(simp only [List.length_drop,List.length_take];done)|(simp only [List.length_drop,List.length_take];rfl)) ?_;(with_reducible refine (laws_eqByteS.calls k _ _ t326 _ _ t336 true _ ?side1 ?side2 ?side3 ?side4 A14.out).mono ?_);(case side1=>exact kC (Kd.R_reads' HO328.out).2.2);(case side2=>exact (Kd.R_reads' HO328.out).2.1);(case side3=>exact kC (Kd.R_reads' HO338.out).2.2);(case side4=>exact (Kd.R_reads' HO338.out).2.1);rintro e w' ⟨rfl,⟨nd,rfl⟩⟩;refine⟨_,rfl,?_⟩)|((with_reducible refine gate_callee (f:=18) rfl ?_);refine goesL_ (some 37) rfl rfl Try.func18 (by kernel_rfl) rfl #[.slice Ao27 t326.length co27,.int .i64 1] rfl (by (try simp only [mA,mC,mN]);first|done|rfl|(simp only [List.length_drop,List.length_take];done)|(simp only [List.length_drop,List.length_take];rfl)) ?_;(with_reducible refine (laws_markByteS.calls k (fun k_=>some k_ = (.slice Ao27 t326.length co27:Value).ownBlock) (.slice Ao27 t326.length co27) t326 1 t340 t341 w _ ?side1 ?side2 A16.out).mono ?_);(case side1=>repeat (first|(with_reducible first|exact HB.out|apply aZ|apply nZ|apply dZ|refine sZ ?_ GE316.out)|exact HB.out));(case side2=>exact Kd.R_tight rfl HO328.out);rintro e w34 ⟨rfl,hy0,hb,hkp⟩;refine⟨_,rfl,?_⟩;replace BK316:=mk0 (blk_kept (kN BK316.out) hkp (fun hs_=>(fun e_=>(Kd.R_ne HO328.out BK316.out (by decide)) e_) hs_));replace HO319:=mk0 (Kd.R_mono (ok':=fun k_=>some k_ ≠ (.slice Ao27 t326.length co27:Value).ownBlock ∧ some k_ ≠ (.slice Ao33 t336.length co33:Value).ownBlock) (Kd.R_keptB (HO319.out) hkp (fun k_ hk_ hs_=>(hk_.1.2) hs_)) (fun k_ hk_=>⟨hk_.1.1.2,hk_.1.2⟩));replace HO325:=mk0 (Kd.R_mono (ok':=fun k_=>some k_ ≠ (.slice Ao29 t332.length co29:Value).ownBlock) (Kd.R_keptB ((Kd.R_apart' HO325.out (Kd.R_typed HO328.out) (by decide))) hkp (fun k_ hk_ hs_=>(hk_.2) hs_)) (fun k_ hk_=>hk_.1.1.2));replace HO334:=mk0 (Kd.R_mono (ok':=fun k_=>some k_ ≠ (.slice Ao30 t323.length co30:Value).ownBlock) (Kd.R_keptB ((Kd.R_apart' HO334.out (Kd.R_typed HO328.out) (by decide))) hkp (fun k_ hk_ hs_=>(hk_.2) hs_)) (fun k_ hk_=>hk_.1.1.2));replace HO328:=mk0 (Kd.R_reok rfl hy0 (fun k_ e_=>HO328.out.1 k_ e_));replace HO338:=mk0 (Kd.R_mono (ok':=fun k_=>some k_ ≠ (.slice Ao22 t317.length co22:Value).ownBlock ∧ some k_ ≠ (.slice Ao27 t326.length co27:Value).ownBlock) (Kd.R_keptB (HO338.out) hkp (fun k_ hk_ hs_=>(hk_.2) hs_)) (fun k_ hk_=>⟨hk_.1.1.2,hk_.1.2⟩));replace HB:=mk0 (hb);(try clear hb);(try clear hkp);(try clear hy0)))
 (try simp only [Act.put,sA,sO,sS])
 go_cut [45] (fun v45 wc=>∃ (kq:Nat) (x45_16:Bool),v45 = .bool x45_16 ∧ Aside0 (laws_FnExactStretchKids.j0 kq l0 t323 t332 x45_16 a1_0 a1_1 a1_2 = some r) ∧ Aside0 (kq ≤ k) ∧ Aside0 (Kd.R k27 27 wc w.heap.size (fun k_=>some k_ ≠ ((.slice Ao29 t332.length co29):Value).ownBlock) (.slice Ao30 t323.length co30) t323) ∧ Aside0 (Kd.R k27 27 wc w.heap.size (fun k_=>some k_ ≠ ((.slice Ao30 t323.length co30):Value).ownBlock) (.slice Ao29 t332.length co29) t332) ∧ Aside0 (wc.heap[gb316]? = some (.cells #[.int .i64 a1_0,.int .i64 a1_1,.int .i64 a1_2] 24 (0,0))) ∧ Aside0 (Below w.heap.size w wc))
 case first =>
  have H:=HC17.out
  clear HC17
  by_cases c35:t340 < 0
  ·rw [if_pos c35] at H
   have c35b0:decide (t340 < 0) = true:=decide_eq_true c35
   clear c35
   (first|rw [c35b0]|(simp only [i64_w,i32_w];rw [c35b0])|skip)
   have H':=mk0 H
   clear H
   go_wp2
   go_meet
   case rel=>exact⟨_,(true),(by first|rfl|(simp;done)|(simp [*];done)),H',⟨by first|omega|exact Nat.le_refl _⟩,⟨rR HO325.out⟩,⟨rR HO334.out⟩,⟨kN BK316.out⟩,⟨kB HB.out⟩⟩
  rw [if_neg c35] at H
  have c35b0:decide (t340 < 0) = false:=decide_eq_false c35
  clear c35
  (first|rw [c35b0]|(simp only [i64_w,i32_w];rw [c35b0])|skip)
  replace H:=Option.bind_eq_some_iff.mp H
  obtain⟨t342,A360,H⟩:=H
  replace H:(laws_FnExactStretchKids.j0 k l0 t323 t332 (!t342) a1_0 a1_1 a1_2) = some r:=H
  have A36:=mk0 A360
  clear A360
  have H':=mk0 H
  clear H
  go_wp2_with (first|(go_at_call 27;(with_reducible refine (laws_eqStretchS.calls k _ _ t332 _ _ t323 t342 _ ?side1 ?side2 ?side3 ?side4 A36.out).mono ?_);(case side1=>exact kC (Kd.R_reads' HO334.out).2.2);(case side2=>exact (Kd.R_reads' HO334.out).2.1);(case side3=>exact kC (Kd.R_reads' HO325.out).2.2);(case side4=>exact (Kd.R_reads' HO325.out).2.1);rintro e w37 ⟨rfl,hb⟩;replace HO319:=mk0 (bR HO319.out hb);replace HO325:=mk0 (bR HO325.out hb);replace HO328:=mk0 (bR HO328.out hb);replace HO334:=mk0 (bR HO334.out hb);replace HO338:=mk0 (bR HO338.out hb);replace BK316:=mk0 (kK BK316.out hb);replace HB:=mk0 (kS HB.out hb);(try clear hb)))
  go_meet
  case rel=>exact⟨_,(!t342),(by first|rfl|(simp;done)|(simp [*];done)),H',⟨by first|omega|exact Nat.le_refl _⟩,⟨rR HO325.out⟩,⟨rR HO334.out⟩,⟨kN BK316.out⟩,⟨kB HB.out⟩⟩
 case rest =>
  clear HC17
  try clear c1
  try clear c2
  try clear p2
  try clear c3
  try clear c3b0
  try clear c3b1
  try clear c9
  try clear c12
  try clear c13
  try clear c15
  try clear c18
  try clear c27
  try clear c32
  try clear c33
  try clear c35
  try clear c35b0
  try clear hcz25_0
  try clear hcz25_1
  try clear hcz25_2
  try clear hfz25_0
  try clear hfz25_1
  try clear hfz25_2
  obtain⟨kq,x45_16,rfl,HA,HJ16,HO_5,HO_7,BK316,HB⟩:=hcut
  cases kq with
  | zero=>exact absurd HA.out (by simp [laws_FnExactStretchKids.j0])
  | succ kj16 =>
   have H:=HA.out
   clear HA
   simp only [laws_FnExactStretchKids.j0] at H
   by_cases c38:x45_16 = true
   ·subst c38
    have H1:(some false) = some r:=by rw [if_pos rfl] at H;exact H
    clear H
    have H:=H1
    clear H1
    obtain rfl:=Option.some.inj H
    go_wp2
    go_ret
    exact⟨by first|rfl|(simp [errW_none,errW_some] <;> rfl)|(simp [*,errW_none,errW_some] <;> rfl),kB HB.out⟩
   replace c38:=Bool.eq_false_iff.mpr c38
   subst c38
   have H1:((laws_markStretchS.f kj16 t332 1).bind fun bt343=>((laws_heldStretchS.f kj16 bt343.2 1).bind fun t345=>(if t345 < 0 then (some false) else (if t345 = bt343.1 then ((laws_toByteS.f kj16 l0).bind fun t346=>((laws_toStretch.f a1_0 a1_1 a1_2).bind fun bt349=>((impl_StretchKids.f kj16 t346 bt349.1 bt349.2.1 bt349.2.2).bind fun t352=>((laws_eqStretchS.f kj16 t352 t323).bind fun t355=>(if t355 = true then ((laws_heldStretchS.f kj16 bt343.2 1).bind fun t356=>(if t356 < 0 then (some false) else (if t356 = bt343.1 then (some true) else (some false)))) else (some false)))))) else (some false))))) = some r:=by rw [if_neg (show ¬ (false = true) by decide)] at H;exact H
   clear H
   have H:=H1
   clear H1
   replace H:=Option.bind_eq_some_iff.mp H
   obtain⟨⟨t343,t344⟩,A390,H⟩:=H
   replace H:((laws_heldStretchS.f kj16 t344 1).bind fun t345=>(if t345 < 0 then (some false) else (if t345 = t343 then ((laws_toByteS.f kj16 l0).bind fun t346=>((laws_toStretch.f a1_0 a1_1 a1_2).bind fun bt349=>((impl_StretchKids.f kj16 t346 bt349.1 bt349.2.1 bt349.2.2).bind fun t352=>((laws_eqStretchS.f kj16 t352 t323).bind fun t355=>(if t355 = true then ((laws_heldStretchS.f kj16 t344 1).bind fun t356=>(if t356 < 0 then (some false) else (if t356 = t343 then (some true) else (some false)))) else (some false)))))) else (some false)))) = some r:=H
   have A39:=mk0 A390
   clear A390
   replace H:=Option.bind_eq_some_iff.mp H
   obtain⟨t345,A400,H⟩:=H
   replace H:(if t345 < 0 then (some false) else (if t345 = t343 then ((laws_toByteS.f kj16 l0).bind fun t346=>((laws_toStretch.f a1_0 a1_1 a1_2).bind fun bt349=>((impl_StretchKids.f kj16 t346 bt349.1 bt349.2.1 bt349.2.2).bind fun t352=>((laws_eqStretchS.f kj16 t352 t323).bind fun t355=>(if t355 = true then ((laws_heldStretchS.f kj16 t344 1).bind fun t356=>(if t356 < 0 then (some false) else (if t356 = t343 then (some true) else (some false)))) else (some false)))))) else (some false))) = some r:=H
   have A40:=mk0 A400
   clear A400
   by_cases c41:t345 < 0
   ·rw [if_pos c41] at H
    have c41b0:decide (t345 < 0) = true:=decide_eq_true c41
    clear c41
    obtain rfl:=Option.some.inj H
    go_wp2_with (first|((with_reducible refine gate_callee (f:=28) rfl ?_);refine goesL_ (some 48) rfl rfl Try.func28 (by kernel_rfl) rfl #[.slice Ao29 t332.length co29,.int .i64 1] rfl (by (try simp only [mA,mC,mN]);first|done|rfl|(simp only [List.length_drop,List.length_take];done)|(simp only [List.length_drop,List.length_take];rfl)) ?_;(with_reducible refine (laws_markStretchS.calls kj16 (fun k_=>some k_ = (.slice Ao29 t332.length co29:Value).ownBlock) (.slice Ao29 t332.length co29) t332 1 t343 t344 w _ ?side1 ?side2 A39.out).mono ?_);(case side1=>repeat (first|(with_reducible first|exact HB.out|apply aZ|apply nZ|apply dZ|refine sZ ?_ GE316.out)|exact HB.out));(case side2=>exact Kd.R_tight rfl HO_7.out);rintro e w42 ⟨rfl,hy0,hb,hkp⟩;refine⟨_,rfl,?_⟩;replace HO_5:=mk0 (Kd.R_mono (ok':=fun k_=>some k_ ≠ (.slice Ao29 t332.length co29:Value).ownBlock) (Kd.R_keptB (HO_5.out) hkp (fun k_ hk_ hs_=>(hk_) hs_)) (fun k_ hk_=>hk_.1));replace BK316:=mk0 (blk_kept (kN BK316.out) hkp (fun hs_=>(fun e_=>(Kd.R_ne HO_7.out BK316.out (by decide)) e_) hs_));replace HO_7:=mk0 (Kd.R_reok rfl hy0 (fun k_ e_=>HO_7.out.1 k_ e_));replace HB:=mk0 (hb);(try clear hb);(try clear hkp);(try clear hy0))|((with_reducible refine gate_callee (f:=29) rfl ?_);refine goesL_ (some 51) rfl rfl Try.func29 (by kernel_rfl) rfl #[.slice Ao29 t344.length co29,.int .i64 1] rfl (by (try simp only [mA,mC,mN]);first|done|(rw [show t344.length = t332.length from (Kd.R_reads' HO_7.out).1.symm] <;> rfl)|rfl|(simp only [List.length_drop,List.length_take];done)|(simp only [List.length_drop,List.length_take];rfl)) ?_;(with_reducible refine (laws_heldStretchS.calls kj16 _ _ t344 1 t345 _ ?side1 ?side2 A40.out).mono ?_);(case side1=>exact kC (Kd.R_reads' HO_7.out).2.2);(case side2=>rw [show t344.length = t332.length from (Kd.R_reads' HO_7.out).1.symm];exact (Kd.R_reads' HO_7.out).2.1);rintro e w' ⟨rfl,⟨nd,rfl⟩⟩;refine⟨_,rfl,?_⟩))
    go_ret
    exact⟨by first|rfl|(simp [errW_none,errW_some] <;> rfl)|(simp [*,errW_none,errW_some] <;> rfl),kB HB.out⟩
   rw [if_neg c41] at H
   have c41b0:decide (t345 < 0) = false:=decide_eq_false c41
   clear c41
   by_cases c43:t345 = t343
   rotate_left
   ·rw [if_neg c43] at H
    have c43b0:(t345 == t343) = false:=beq_eq_false_iff_ne.mpr c43
    have c43b1:(t345 != t343) = true:=bne_iff_ne.mpr c43
    obtain rfl:=Option.some.inj H
    go_wp2_with (first|((with_reducible refine gate_callee (f:=28) rfl ?_);refine goesL_ (some 48) rfl rfl Try.func28 (by kernel_rfl) rfl #[.slice Ao29 t332.length co29,.int .i64 1] rfl (by (try simp only [mA,mC,mN]);first|done|rfl|(simp only [List.length_drop,List.length_take];done)|(simp only [List.length_drop,List.length_take];rfl)) ?_;(with_reducible refine (laws_markStretchS.calls kj16 (fun k_=>some k_ = (.slice Ao29 t332.length co29:Value).ownBlock) (.slice Ao29 t332.length co29) t332 1 t343 t344 w _ ?side1 ?side2 A39.out).mono ?_);(case side1=>repeat (first|(with_reducible first|exact HB.out|apply aZ|apply nZ|apply dZ|refine sZ ?_ GE316.out)|exact HB.out));(case side2=>exact Kd.R_tight rfl HO_7.out);rintro e w84 ⟨rfl,hy0,hb,hkp⟩;refine⟨_,rfl,?_⟩;replace HO_5:=mk0 (Kd.R_mono (ok':=fun k_=>some k_ ≠ (.slice Ao29 t332.length co29:Value).ownBlock) (Kd.R_keptB (HO_5.out) hkp (fun k_ hk_ hs_=>(hk_) hs_)) (fun k_ hk_=>hk_.1));replace BK316:=mk0 (blk_kept (kN BK316.out) hkp (fun hs_=>(fun e_=>(Kd.R_ne HO_7.out BK316.out (by decide)) e_) hs_));replace HO_7:=mk0 (Kd.R_reok rfl hy0 (fun k_ e_=>HO_7.out.1 k_ e_));replace HB:=mk0 (hb);(try clear hb);(try clear hkp);(try clear hy0))|((with_reducible refine gate_callee (f:=29) rfl ?_);refine goesL_ (some 51) rfl rfl Try.func29 (by kernel_rfl) rfl #[.slice Ao29 t344.length co29,.int .i64 1] rfl (by (try simp only [mA,mC,mN]);first|done|(rw [show t344.length = t332.length from (Kd.R_reads' HO_7.out).1.symm] <;> rfl)|rfl|(simp only [List.length_drop,List.length_take];done)|(simp only [List.length_drop,List.length_take];rfl)) ?_;(with_reducible refine (laws_heldStretchS.calls kj16 _ _ t344 1 t345 _ ?side1 ?side2 A40.out).mono ?_);(case side1=>exact kC (Kd.R_reads' HO_7.out).2.2);(case side2=>rw [show t344.length = t332.length from (Kd.R_reads' HO_7.out).1.symm];exact (Kd.R_reads' HO_7.out).2.1);rintro e w' ⟨rfl,⟨nd,rfl⟩⟩;refine⟨_,rfl,?_⟩))
    go_ret
    exact⟨by first|rfl|(simp [errW_none,errW_some] <;> rfl)|(simp [*,errW_none,errW_some] <;> rfl),kB HB.out⟩
   rw [if_pos c43] at H
   have c43b0:(t345 == t343) = true:=beq_iff_eq.mpr c43
   have c43b1:(t345 != t343) = false:=bne_eq_false_iff_eq.mpr c43
   clear c43
   replace H:=Option.bind_eq_some_iff.mp H
   obtain⟨t346,A440,H⟩:=H
   replace H:((laws_toStretch.f a1_0 a1_1 a1_2).bind fun bt349=>((impl_StretchKids.f kj16 t346 bt349.1 bt349.2.1 bt349.2.2).bind fun t352=>((laws_eqStretchS.f kj16 t352 t323).bind fun t355=>(if t355 = true then ((laws_heldStretchS.f kj16 t344 1).bind fun t356=>(if t356 < 0 then (some false) else (if t356 = t343 then (some true) else (some false)))) else (some false))))) = some r:=H
   have A44:=mk0 A440
   clear A440
   replace H:=Option.bind_eq_some_iff.mp H
   obtain⟨⟨t349,t350,t351⟩,A450,H⟩:=H
   replace H:((impl_StretchKids.f kj16 t346 t349 t350 t351).bind fun t352=>((laws_eqStretchS.f kj16 t352 t323).bind fun t355=>(if t355 = true then ((laws_heldStretchS.f kj16 t344 1).bind fun t356=>(if t356 < 0 then (some false) else (if t356 = t343 then (some true) else (some false)))) else (some false)))) = some r:=H
   have A45:=mk0 A450
   clear A450
   replace H:=Option.bind_eq_some_iff.mp H
   obtain⟨t352,A460,H⟩:=H
   replace H:((laws_eqStretchS.f kj16 t352 t323).bind fun t355=>(if t355 = true then ((laws_heldStretchS.f kj16 t344 1).bind fun t356=>(if t356 < 0 then (some false) else (if t356 = t343 then (some true) else (some false)))) else (some false))) = some r:=H
   have A46:=mk0 A460
   clear A460
   replace H:=Option.bind_eq_some_iff.mp H
   obtain⟨t355,A470,H⟩:=H
   replace H:(if t355 = true then ((laws_heldStretchS.f kj16 t344 1).bind fun t356=>(if t356 < 0 then (some false) else (if t356 = t343 then (some true) else (some false)))) else (some false)) = some r:=H
   have A47:=mk0 A470
   clear A470
   by_cases c48:t355 = true
   rotate_left
   ·replace c48:=Bool.eq_false_iff.mpr c48
    subst c48
    have H1:(some false) = some r:=by rw [if_neg (show ¬ (false = true) by decide)] at H;exact H
    clear H
    have H:=H1
    clear H1
    obtain rfl:=Option.some.inj H
    try go_wp2_with (first|((with_reducible refine gate_callee (f:=28) rfl ?_);refine goesL_ (some 48) rfl rfl Try.func28 (by kernel_rfl) rfl #[.slice Ao29 t332.length co29,.int .i64 1] rfl (by (try simp only [mA,mC,mN]);first|done|rfl|(simp only [List.length_drop,List.length_take];done)|(simp only [List.length_drop,List.length_take];rfl)) ?_;(with_reducible refine (laws_markStretchS.calls kj16 (fun k_=>some k_ = (.slice Ao29 t332.length co29:Value).ownBlock) (.slice Ao29 t332.length co29) t332 1 t343 t344 w _ ?side1 ?side2 A39.out).mono ?_);(case side1=>repeat (first|(with_reducible first|exact HB.out|apply aZ|apply nZ|apply dZ|refine sZ ?_ GE316.out)|exact HB.out));(case side2=>exact Kd.R_tight rfl HO_7.out);rintro e w76 ⟨rfl,hy0,hb,hkp⟩;refine⟨_,rfl,?_⟩;replace HO_5:=mk0 (Kd.R_mono (ok':=fun k_=>some k_ ≠ (.slice Ao29 t332.length co29:Value).ownBlock) (Kd.R_keptB (HO_5.out) hkp (fun k_ hk_ hs_=>(hk_) hs_)) (fun k_ hk_=>hk_.1));replace BK316:=mk0 (blk_kept (kN BK316.out) hkp (fun hs_=>(fun e_=>(Kd.R_ne HO_7.out BK316.out (by decide)) e_) hs_));replace HO_7:=mk0 (Kd.R_reok rfl hy0 (fun k_ e_=>HO_7.out.1 k_ e_));replace HB:=mk0 (hb);(try clear hb);(try clear hkp);(try clear hy0))|((with_reducible refine gate_callee (f:=29) rfl ?_);refine goesL_ (some 51) rfl rfl Try.func29 (by kernel_rfl) rfl #[.slice Ao29 t344.length co29,.int .i64 1] rfl (by (try simp only [mA,mC,mN]);first|done|(rw [show t344.length = t332.length from (Kd.R_reads' HO_7.out).1.symm] <;> rfl)|rfl|(simp only [List.length_drop,List.length_take];done)|(simp only [List.length_drop,List.length_take];rfl)) ?_;(with_reducible refine (laws_heldStretchS.calls kj16 _ _ t344 1 t345 _ ?side1 ?side2 A40.out).mono ?_);(case side1=>exact kC (Kd.R_reads' HO_7.out).2.2);(case side2=>rw [show t344.length = t332.length from (Kd.R_reads' HO_7.out).1.symm];exact (Kd.R_reads' HO_7.out).2.1);rintro e w' ⟨rfl,⟨nd,rfl⟩⟩;refine⟨_,rfl,?_⟩))
    (try (rw [drewN_self w76];generalize hq_:World.drewN w76 _ = w76;have n0_:Aside0 (Kd.R k27 27 w76 w.heap.size (fun k_=>some k_ ≠ (.slice Ao29 t332.length co29:Value).ownBlock) (.slice Ao30 t323.length co30) t323):=⟨by rw [← hq_];exact (rR HO_5.out)⟩;have n1_:Aside0 (Kd.R k27 27 w76 w.heap.size (fun k_=>some k_ ≠ (.slice Ao30 t323.length co30:Value).ownBlock) (.slice Ao29 t332.length co29) t344):=⟨by rw [← hq_];exact (rR HO_7.out)⟩;have n2_:Aside0 (w76.heap[gb316]? = some (.cells #[.int .i64 a1_0,.int .i64 a1_1,.int .i64 a1_2] 24 (0,0))):=⟨by rw [← hq_];exact (kN BK316.out)⟩;have n3_:Aside0 (Below w.heap.size w w76):=⟨by rw [← hq_];exact (kB HB.out)⟩;clear HO_5 HO_7 BK316 HB hq_;have HO_5:=n0_;have HO_7:=n1_;have BK316:=n2_;have HB:=n3_;clear n0_ n1_ n2_ n3_))
    replace HO_5:=mk0 (dR HO_5.out)
    replace HO_7:=mk0 (dR HO_7.out)
    replace BK316:=mk0 (dB BK316.out)
    replace HB:=mk0 (dZ HB.out)
    refine start_ (n:=6) (S:=fun w'=>w'.cell? ⟨gb316,0,none⟩ = some (.int .i64 a1_0) ∧ w'.cell? ⟨gb316,1,none⟩ = some (.int .i64 a1_1) ∧ w'.cell? ⟨gb316,2,none⟩ = some (.int .i64 a1_2)) (ds:=[]) #[false,false,false,false,false,false] (by kernel_rfl) rfl rfl (ck3 BK316.out) (fun hHeld=>?_)
    generalize w76.drew = w77 at HO_5 HO_7 BK316 HB hHeld ⊢
    refine pure_ (i:=0) (N:=some 57) (v:=?_) (a':=?_) #[true,false,false,false,false,false] rfl rfl (by kernel_rfl) (fun _ _ _ h=>h) (Or.inl ⟨by rfl,?_⟩) ?_ ?_
    rotate_left
    ·intro w'
     go_simp
     with_reducible rfl
    rotate_left
    ·simp only [Act.put,sA,sO,sS,i64_w,i32_w]
     rfl
    refine take_ (i:=2) (N:=some 59) (v:=?_) (a':=?_) #[true,false,true,false,false,false] rfl rfl (by kernel_rfl) (fun _ _ _ h=>h) (Or.inl ⟨by rfl,?_⟩) hHeld ?_ ?_
    rotate_left
    ·rintro w' ⟨s0,s1,s2⟩
     go_simp
     with_reducible rfl
    rotate_left
    ·simp only [Act.put,sA,sO,sS,i64_w,i32_w]
     rfl
    refine one_ (i:=1) (N:=some 58) #[true,true,true,false,false,false] rfl rfl (by kernel_rfl) (by decide) (fun K hK=>?_)
    refine goes_ Try.func12 (by kernel_rfl) rfl #[.slice A0 l0.length c0] (by rfl) rfl rfl (by (try simp only [mA,mC,mN]);first|done|rfl|(simp only [List.length_drop,List.length_take];done)|(simp only [List.length_drop,List.length_take];rfl)) ?_
    with_reducible refine (laws_toByteS.calls kj16 _ _ l0 t346 _ ?side1 ?side2 A44.out).mono ?_
    (case side1=>exact kC (Kd.C_below HR0.out HB.out))
    (case side2=>exact HC0.out)
    rintro e w78 ⟨v347,rfl,ho0,hb⟩
    refine⟨_,rfl,?_⟩
    replace HO_5:=mk0 (bR HO_5.out hb)
    replace HO_7:=mk0 (bR HO_7.out hb)
    have HO348:=mk0 (Kd.R_lower ho0 (kZ HB.out))
    replace BK316:=mk0 (kK BK316.out hb)
    replace HB:=mk0 (kS HB.out hb)
    (try clear hb)
    (try clear ho0)
    refine hK.out _ _ (ck3 BK316.out) (fun hHeld=>?_)
    clear hK K
    refine norm_ (a':=?_) ?_ ?_
    rotate_left
    ·show Act.put _ (some 58) _ = _
     simp only [Act.put,sA,sO,sS,i64_w,i32_w]
     rfl
    refine one_ (i:=3) (N:=some 60) #[true,true,true,true,false,false] rfl rfl (by kernel_rfl) (by decide) (fun K hK=>?_)
    refine goes_ Try.func13 (by kernel_rfl) rfl #[.agg #[.int .i64 a1_0,.int .i64 a1_1,.int .i64 a1_2]] (by rfl) rfl rfl (by (try simp only [mA,mC,mN]);first|done|rfl|(simp only [List.length_drop,List.length_take];done)|(simp only [List.length_drop,List.length_take];rfl)) ?_
    with_reducible refine (laws_toStretch.calls a1_0 a1_1 a1_2 t349 t350 t351 _ A45.out).mono ?_
    rintro e w79 ⟨rfl,hb⟩
    refine⟨_,rfl,?_⟩
    replace HO_5:=mk0 (bR HO_5.out hb)
    replace HO_7:=mk0 (bR HO_7.out hb)
    replace HO348:=mk0 (bR HO348.out hb)
    replace BK316:=mk0 (kK BK316.out hb)
    replace HB:=mk0 (kS HB.out hb)
    (try clear hb)
    obtain⟨Ao80,co80,eo80⟩:=Kd.R_slice HO348.out
    (first|subst eo80|(injection eo80 with f1_ f2_ f3_;have f4_:=f1_.symm;have f5_:=f3_.symm;clear f1_ f2_ f3_;subst f4_;subst f5_))
    refine hK.out _ _ (ck3 BK316.out) (fun hHeld=>?_)
    clear hK K
    refine norm_ (a':=?_) ?_ ?_
    rotate_left
    ·show Act.put _ (some 60) _ = _
     simp only [Act.put,sA,sO,sS,i64_w,i32_w]
     rfl
    refine one_ (i:=4) (N:=some 61) #[true,true,true,true,true,false] rfl rfl (by kernel_rfl) (by decide) (fun K hK=>?_)
    refine goes_ Try.func33 (by kernel_rfl) rfl #[.slice Ao80 t346.length co80,.agg #[.int .i64 t349,.int .i64 t350,.int .i64 t351]] (by rfl) rfl rfl (by (try simp only [mA,mC,mN]);first|done|rfl|(simp only [List.length_drop,List.length_take];done)|(simp only [List.length_drop,List.length_take];rfl)) ?_
    with_reducible refine (impl_StretchKids.calls kj16 _ _ t346 t349 t350 t351 t352 _ ?side1 ?side2 A46.out).mono ?_
    (case side1=>exact kC (Kd.R_reads' HO348.out).2.2)
    (case side2=>exact (Kd.R_reads' HO348.out).2.1)
    rintro e w81 ⟨v353,rfl,ho0,hb⟩
    refine⟨_,rfl,?_⟩
    replace HO348:=mk0 (bR HO348.out hb)
    have HO354:=mk0 (Kd.R_lower (Kd.R_new' (Kd.R_new' ho0 (Kd.R_lt (rR HO_5.out))) (Kd.R_lt (rR HO_7.out))) (kZ HB.out))
    replace HO_5:=mk0 (Kd.R_elder' (rR HO_5.out) (Kd.R_base ho0) hb)
    replace HO_7:=mk0 (Kd.R_elder' (rR HO_7.out) (Kd.R_base ho0) hb)
    replace BK316:=mk0 (kK BK316.out hb)
    replace HB:=mk0 (kS HB.out hb)
    (try clear hb)
    (try clear ho0)
    refine hK.out _ _ (ck3 BK316.out) (fun hHeld=>?_)
    clear hK K
    refine norm_ (a':=?_) ?_ ?_
    rotate_left
    ·show Act.put _ (some 61) _ = _
     simp only [Act.put,sA,sO,sS,i64_w,i32_w]
     rfl
    refine pure_ (i:=5) (N:=some 11) (v:=?_) (a':=?_) #[true,true,true,true,true,true] rfl rfl (by kernel_rfl) (fun _ _ _ h=>h) (Or.inl ⟨by rfl,?_⟩) ?_ ?_
    rotate_left
    ·intro w'
     go_simp
     with_reducible rfl
    rotate_left
    ·simp only [Act.put,sA,sO,sS,i64_w,i32_w]
     rfl
    refine done_ (by kernel_rfl) ?_
    obtain⟨Ao82,co82,eo82⟩:=Kd.R_slice HO354.out
    subst eo82
    try go_wp2_with (first|((with_reducible refine gate_callee (f:=27) rfl ?_);refine goesL_ (some 64) rfl rfl Try.func27 (by kernel_rfl) rfl #[.slice Ao82 t352.length co82,.slice Ao30 t323.length co30] rfl (by (try simp only [mA,mC,mN]);first|done|rfl|(simp only [List.length_drop,List.length_take];done)|(simp only [List.length_drop,List.length_take];rfl)) ?_;(with_reducible refine (laws_eqStretchS.calls kj16 _ _ t352 _ _ t323 false _ ?side1 ?side2 ?side3 ?side4 A47.out).mono ?_);(case side1=>exact kC (Kd.R_reads' HO354.out).2.2);(case side2=>exact (Kd.R_reads' HO354.out).2.1);(case side3=>exact kC (Kd.R_reads' HO_5.out).2.2);(case side4=>exact (Kd.R_reads' HO_5.out).2.1);rintro e w83 ⟨rfl,hb⟩;refine⟨_,rfl,?_⟩;replace HO_5:=mk0 (bR HO_5.out hb);replace HO_7:=mk0 (bR HO_7.out hb);replace HO348:=mk0 (bR HO348.out hb);replace HO354:=mk0 (bR HO354.out hb);replace BK316:=mk0 (kK BK316.out hb);replace HB:=mk0 (kS HB.out hb);(try clear hb)))
    go_ret
    exact⟨by first|rfl|(simp [errW_none,errW_some] <;> rfl)|(simp [*,errW_none,errW_some] <;> rfl),kB HB.out⟩
   subst c48
   have H1:((laws_heldStretchS.f kj16 t344 1).bind fun t356=>(if t356 < 0 then (some false) else (if t356 = t343 then (some true) else (some false)))) = some r:=by rw [if_pos rfl] at H;exact H
   clear H
   have H:=H1
   clear H1
   replace H:=Option.bind_eq_some_iff.mp H
   obtain⟨t356,A490,H⟩:=H
   replace H:(if t356 < 0 then (some false) else (if t356 = t343 then (some true) else (some false))) = some r:=H
   have A49:=mk0 A490
   clear A490
   by_cases c50:t356 < 0
   ·rw [if_pos c50] at H
    have c50b0:decide (t356 < 0) = true:=decide_eq_true c50
    clear c50
    obtain rfl:=Option.some.inj H
    try go_wp2_with (first|((with_reducible refine gate_callee (f:=28) rfl ?_);refine goesL_ (some 48) rfl rfl Try.func28 (by kernel_rfl) rfl #[.slice Ao29 t332.length co29,.int .i64 1] rfl (by (try simp only [mA,mC,mN]);first|done|rfl|(simp only [List.length_drop,List.length_take];done)|(simp only [List.length_drop,List.length_take];rfl)) ?_;(with_reducible refine (laws_markStretchS.calls kj16 (fun k_=>some k_ = (.slice Ao29 t332.length co29:Value).ownBlock) (.slice Ao29 t332.length co29) t332 1 t343 t344 w _ ?side1 ?side2 A39.out).mono ?_);(case side1=>repeat (first|(with_reducible first|exact HB.out|apply aZ|apply nZ|apply dZ|refine sZ ?_ GE316.out)|exact HB.out));(case side2=>exact Kd.R_tight rfl HO_7.out);rintro e w51 ⟨rfl,hy0,hb,hkp⟩;refine⟨_,rfl,?_⟩;replace HO_5:=mk0 (Kd.R_mono (ok':=fun k_=>some k_ ≠ (.slice Ao29 t332.length co29:Value).ownBlock) (Kd.R_keptB (HO_5.out) hkp (fun k_ hk_ hs_=>(hk_) hs_)) (fun k_ hk_=>hk_.1));replace BK316:=mk0 (blk_kept (kN BK316.out) hkp (fun hs_=>(fun e_=>(Kd.R_ne HO_7.out BK316.out (by decide)) e_) hs_));replace HO_7:=mk0 (Kd.R_reok rfl hy0 (fun k_ e_=>HO_7.out.1 k_ e_));replace HB:=mk0 (hb);(try clear hb);(try clear hkp);(try clear hy0))|((with_reducible refine gate_callee (f:=29) rfl ?_);refine goesL_ (some 51) rfl rfl Try.func29 (by kernel_rfl) rfl #[.slice Ao29 t344.length co29,.int .i64 1] rfl (by (try simp only [mA,mC,mN]);first|done|(rw [show t344.length = t332.length from (Kd.R_reads' HO_7.out).1.symm] <;> rfl)|rfl|(simp only [List.length_drop,List.length_take];done)|(simp only [List.length_drop,List.length_take];rfl)) ?_;(with_reducible refine (laws_heldStretchS.calls kj16 _ _ t344 1 t345 _ ?side1 ?side2 A40.out).mono ?_);(case side1=>exact kC (Kd.R_reads' HO_7.out).2.2);(case side2=>rw [show t344.length = t332.length from (Kd.R_reads' HO_7.out).1.symm];exact (Kd.R_reads' HO_7.out).2.1);rintro e w' ⟨rfl,⟨nd,rfl⟩⟩;refine⟨_,rfl,?_⟩))
    (try (rw [drewN_self w51];generalize hq_:World.drewN w51 _ = w51;have n0_:Aside0 (Kd.R k27 27 w51 w.heap.size (fun k_=>some k_ ≠ (.slice Ao29 t332.length co29:Value).ownBlock) (.slice Ao30 t323.length co30) t323):=⟨by rw [← hq_];exact (rR HO_5.out)⟩;have n1_:Aside0 (Kd.R k27 27 w51 w.heap.size (fun k_=>some k_ ≠ (.slice Ao30 t323.length co30:Value).ownBlock) (.slice Ao29 t332.length co29) t344):=⟨by rw [← hq_];exact (rR HO_7.out)⟩;have n2_:Aside0 (w51.heap[gb316]? = some (.cells #[.int .i64 a1_0,.int .i64 a1_1,.int .i64 a1_2] 24 (0,0))):=⟨by rw [← hq_];exact (kN BK316.out)⟩;have n3_:Aside0 (Below w.heap.size w w51):=⟨by rw [← hq_];exact (kB HB.out)⟩;clear HO_5 HO_7 BK316 HB hq_;have HO_5:=n0_;have HO_7:=n1_;have BK316:=n2_;have HB:=n3_;clear n0_ n1_ n2_ n3_))
    replace HO_5:=mk0 (dR HO_5.out)
    replace HO_7:=mk0 (dR HO_7.out)
    replace BK316:=mk0 (dB BK316.out)
    replace HB:=mk0 (dZ HB.out)
    refine start_ (n:=6) (S:=fun w'=>w'.cell? ⟨gb316,0,none⟩ = some (.int .i64 a1_0) ∧ w'.cell? ⟨gb316,1,none⟩ = some (.int .i64 a1_1) ∧ w'.cell? ⟨gb316,2,none⟩ = some (.int .i64 a1_2)) (ds:=[]) #[false,false,false,false,false,false] (by kernel_rfl) rfl rfl (ck3 BK316.out) (fun hHeld=>?_)
    generalize w51.drew = w52 at HO_5 HO_7 BK316 HB hHeld ⊢
    refine pure_ (i:=0) (N:=some 57) (v:=?_) (a':=?_) #[true,false,false,false,false,false] rfl rfl (by kernel_rfl) (fun _ _ _ h=>h) (Or.inl ⟨by rfl,?_⟩) ?_ ?_
    rotate_left
    ·intro w'
     go_simp
     with_reducible rfl
    rotate_left
    ·simp only [Act.put,sA,sO,sS,i64_w,i32_w]
     rfl
    refine take_ (i:=2) (N:=some 59) (v:=?_) (a':=?_) #[true,false,true,false,false,false] rfl rfl (by kernel_rfl) (fun _ _ _ h=>h) (Or.inl ⟨by rfl,?_⟩) hHeld ?_ ?_
    rotate_left
    ·rintro w' ⟨s0,s1,s2⟩
     go_simp
     with_reducible rfl
    rotate_left
    ·simp only [Act.put,sA,sO,sS,i64_w,i32_w]
     rfl
    refine one_ (i:=1) (N:=some 58) #[true,true,true,false,false,false] rfl rfl (by kernel_rfl) (by decide) (fun K hK=>?_)
    refine goes_ Try.func12 (by kernel_rfl) rfl #[.slice A0 l0.length c0] (by rfl) rfl rfl (by (try simp only [mA,mC,mN]);first|done|rfl|(simp only [List.length_drop,List.length_take];done)|(simp only [List.length_drop,List.length_take];rfl)) ?_
    with_reducible refine (laws_toByteS.calls kj16 _ _ l0 t346 _ ?side1 ?side2 A44.out).mono ?_
    (case side1=>exact kC (Kd.C_below HR0.out HB.out))
    (case side2=>exact HC0.out)
    rintro e w53 ⟨v347,rfl,ho0,hb⟩
    refine⟨_,rfl,?_⟩
    replace HO_5:=mk0 (bR HO_5.out hb)
    replace HO_7:=mk0 (bR HO_7.out hb)
    have HO348:=mk0 (Kd.R_lower ho0 (kZ HB.out))
    replace BK316:=mk0 (kK BK316.out hb)
    replace HB:=mk0 (kS HB.out hb)
    (try clear hb)
    (try clear ho0)
    refine hK.out _ _ (ck3 BK316.out) (fun hHeld=>?_)
    clear hK K
    refine norm_ (a':=?_) ?_ ?_
    rotate_left
    ·show Act.put _ (some 58) _ = _
     simp only [Act.put,sA,sO,sS,i64_w,i32_w]
     rfl
    refine one_ (i:=3) (N:=some 60) #[true,true,true,true,false,false] rfl rfl (by kernel_rfl) (by decide) (fun K hK=>?_)
    refine goes_ Try.func13 (by kernel_rfl) rfl #[.agg #[.int .i64 a1_0,.int .i64 a1_1,.int .i64 a1_2]] (by rfl) rfl rfl (by (try simp only [mA,mC,mN]);first|done|rfl|(simp only [List.length_drop,List.length_take];done)|(simp only [List.length_drop,List.length_take];rfl)) ?_
    with_reducible refine (laws_toStretch.calls a1_0 a1_1 a1_2 t349 t350 t351 _ A45.out).mono ?_
    rintro e w54 ⟨rfl,hb⟩
    refine⟨_,rfl,?_⟩
    replace HO_5:=mk0 (bR HO_5.out hb)
    replace HO_7:=mk0 (bR HO_7.out hb)
    replace HO348:=mk0 (bR HO348.out hb)
    replace BK316:=mk0 (kK BK316.out hb)
    replace HB:=mk0 (kS HB.out hb)
    (try clear hb)
    obtain⟨Ao55,co55,eo55⟩:=Kd.R_slice HO348.out
    (first|subst eo55|(injection eo55 with f1_ f2_ f3_;have f4_:=f1_.symm;have f5_:=f3_.symm;clear f1_ f2_ f3_;subst f4_;subst f5_))
    refine hK.out _ _ (ck3 BK316.out) (fun hHeld=>?_)
    clear hK K
    refine norm_ (a':=?_) ?_ ?_
    rotate_left
    ·show Act.put _ (some 60) _ = _
     simp only [Act.put,sA,sO,sS,i64_w,i32_w]
     rfl
    refine one_ (i:=4) (N:=some 61) #[true,true,true,true,true,false] rfl rfl (by kernel_rfl) (by decide) (fun K hK=>?_)
    refine goes_ Try.func33 (by kernel_rfl) rfl #[.slice Ao55 t346.length co55,.agg #[.int .i64 t349,.int .i64 t350,.int .i64 t351]] (by rfl) rfl rfl (by (try simp only [mA,mC,mN]);first|done|rfl|(simp only [List.length_drop,List.length_take];done)|(simp only [List.length_drop,List.length_take];rfl)) ?_
    with_reducible refine (impl_StretchKids.calls kj16 _ _ t346 t349 t350 t351 t352 _ ?side1 ?side2 A46.out).mono ?_
    (case side1=>exact kC (Kd.R_reads' HO348.out).2.2)
    (case side2=>exact (Kd.R_reads' HO348.out).2.1)
    rintro e w56 ⟨v353,rfl,ho0,hb⟩
    refine⟨_,rfl,?_⟩
    replace HO348:=mk0 (bR HO348.out hb)
    have HO354:=mk0 (Kd.R_lower (Kd.R_new' (Kd.R_new' ho0 (Kd.R_lt (rR HO_5.out))) (Kd.R_lt (rR HO_7.out))) (kZ HB.out))
    replace HO_5:=mk0 (Kd.R_elder' (rR HO_5.out) (Kd.R_base ho0) hb)
    replace HO_7:=mk0 (Kd.R_elder' (rR HO_7.out) (Kd.R_base ho0) hb)
    replace BK316:=mk0 (kK BK316.out hb)
    replace HB:=mk0 (kS HB.out hb)
    (try clear hb)
    (try clear ho0)
    refine hK.out _ _ (ck3 BK316.out) (fun hHeld=>?_)
    clear hK K
    refine norm_ (a':=?_) ?_ ?_
    rotate_left
    ·show Act.put _ (some 61) _ = _
     simp only [Act.put,sA,sO,sS,i64_w,i32_w]
     rfl
    refine pure_ (i:=5) (N:=some 11) (v:=?_) (a':=?_) #[true,true,true,true,true,true] rfl rfl (by kernel_rfl) (fun _ _ _ h=>h) (Or.inl ⟨by rfl,?_⟩) ?_ ?_
    rotate_left
    ·intro w'
     go_simp
     with_reducible rfl
    rotate_left
    ·simp only [Act.put,sA,sO,sS,i64_w,i32_w]
     rfl
    refine done_ (by kernel_rfl) ?_
    obtain⟨Ao57,co57,eo57⟩:=Kd.R_slice HO354.out
    subst eo57
    try go_wp2_with (first|((with_reducible refine gate_callee (f:=27) rfl ?_);refine goesL_ (some 64) rfl rfl Try.func27 (by kernel_rfl) rfl #[.slice Ao57 t352.length co57,.slice Ao30 t323.length co30] rfl (by (try simp only [mA,mC,mN]);first|done|rfl|(simp only [List.length_drop,List.length_take];done)|(simp only [List.length_drop,List.length_take];rfl)) ?_;(with_reducible refine (laws_eqStretchS.calls kj16 _ _ t352 _ _ t323 true _ ?side1 ?side2 ?side3 ?side4 A47.out).mono ?_);(case side1=>exact kC (Kd.R_reads' HO354.out).2.2);(case side2=>exact (Kd.R_reads' HO354.out).2.1);(case side3=>exact kC (Kd.R_reads' HO_5.out).2.2);(case side4=>exact (Kd.R_reads' HO_5.out).2.1);rintro e w58 ⟨rfl,hb⟩;refine⟨_,rfl,?_⟩;replace HO_5:=mk0 (bR HO_5.out hb);replace HO_7:=mk0 (bR HO_7.out hb);replace HO348:=mk0 (bR HO348.out hb);replace HO354:=mk0 (bR HO354.out hb);replace BK316:=mk0 (kK BK316.out hb);replace HB:=mk0 (kS HB.out hb);(try clear hb))|((with_reducible refine gate_callee (f:=29) rfl ?_);refine goesL_ (some 68) rfl rfl Try.func29 (by kernel_rfl) rfl #[.slice Ao29 t344.length co29,.int .i64 1] rfl (by (try simp only [mA,mC,mN]);first|done|(rw [show t344.length = t332.length from (Kd.R_reads' HO_7.out).1.symm] <;> rfl)|rfl|(simp only [List.length_drop,List.length_take];done)|(simp only [List.length_drop,List.length_take];rfl)) ?_;(with_reducible refine (laws_heldStretchS.calls kj16 _ _ t344 1 t356 _ ?side1 ?side2 A49.out).mono ?_);(case side1=>exact kC (Kd.R_reads' HO_7.out).2.2);(case side2=>rw [show t344.length = t332.length from (Kd.R_reads' HO_7.out).1.symm];exact (Kd.R_reads' HO_7.out).2.1);rintro e w' ⟨rfl,⟨nd,rfl⟩⟩;refine⟨_,rfl,?_⟩))
    go_ret
    exact⟨by first|rfl|(simp [errW_none,errW_some] <;> rfl)|(simp [*,errW_none,errW_some] <;> rfl),kB HB.out⟩
   rw [if_neg c50] at H
   have c50b0:decide (t356 < 0) = false:=decide_eq_false c50
   clear c50
   by_cases c59:t356 = t343
   rotate_left
   ·rw [if_neg c59] at H
    have c59b0:(t356 == t343) = false:=beq_eq_false_iff_ne.mpr c59
    have c59b1:(t356 != t343) = true:=bne_iff_ne.mpr c59
    obtain rfl:=Option.some.inj H
    try go_wp2_with (first|((with_reducible refine gate_callee (f:=28) rfl ?_);refine goesL_ (some 48) rfl rfl Try.func28 (by kernel_rfl) rfl #[.slice Ao29 t332.length co29,.int .i64 1] rfl (by (try simp only [mA,mC,mN]);first|done|rfl|(simp only [List.length_drop,List.length_take];done)|(simp only [List.length_drop,List.length_take];rfl)) ?_;(with_reducible refine (laws_markStretchS.calls kj16 (fun k_=>some k_ = (.slice Ao29 t332.length co29:Value).ownBlock) (.slice Ao29 t332.length co29) t332 1 t343 t344 w _ ?side1 ?side2 A39.out).mono ?_);(case side1=>repeat (first|(with_reducible first|exact HB.out|apply aZ|apply nZ|apply dZ|refine sZ ?_ GE316.out)|exact HB.out));(case side2=>exact Kd.R_tight rfl HO_7.out);rintro e w68 ⟨rfl,hy0,hb,hkp⟩;refine⟨_,rfl,?_⟩;replace HO_5:=mk0 (Kd.R_mono (ok':=fun k_=>some k_ ≠ (.slice Ao29 t332.length co29:Value).ownBlock) (Kd.R_keptB (HO_5.out) hkp (fun k_ hk_ hs_=>(hk_) hs_)) (fun k_ hk_=>hk_.1));replace BK316:=mk0 (blk_kept (kN BK316.out) hkp (fun hs_=>(fun e_=>(Kd.R_ne HO_7.out BK316.out (by decide)) e_) hs_));replace HO_7:=mk0 (Kd.R_reok rfl hy0 (fun k_ e_=>HO_7.out.1 k_ e_));replace HB:=mk0 (hb);(try clear hb);(try clear hkp);(try clear hy0))|((with_reducible refine gate_callee (f:=29) rfl ?_);refine goesL_ (some 51) rfl rfl Try.func29 (by kernel_rfl) rfl #[.slice Ao29 t344.length co29,.int .i64 1] rfl (by (try simp only [mA,mC,mN]);first|done|(rw [show t344.length = t332.length from (Kd.R_reads' HO_7.out).1.symm] <;> rfl)|rfl|(simp only [List.length_drop,List.length_take];done)|(simp only [List.length_drop,List.length_take];rfl)) ?_;(with_reducible refine (laws_heldStretchS.calls kj16 _ _ t344 1 t345 _ ?side1 ?side2 A40.out).mono ?_);(case side1=>exact kC (Kd.R_reads' HO_7.out).2.2);(case side2=>rw [show t344.length = t332.length from (Kd.R_reads' HO_7.out).1.symm];exact (Kd.R_reads' HO_7.out).2.1);rintro e w' ⟨rfl,⟨nd,rfl⟩⟩;refine⟨_,rfl,?_⟩))
    (try (rw [drewN_self w68];generalize hq_:World.drewN w68 _ = w68;have n0_:Aside0 (Kd.R k27 27 w68 w.heap.size (fun k_=>some k_ ≠ (.slice Ao29 t332.length co29:Value).ownBlock) (.slice Ao30 t323.length co30) t323):=⟨by rw [← hq_];exact (rR HO_5.out)⟩;have n1_:Aside0 (Kd.R k27 27 w68 w.heap.size (fun k_=>some k_ ≠ (.slice Ao30 t323.length co30:Value).ownBlock) (.slice Ao29 t332.length co29) t344):=⟨by rw [← hq_];exact (rR HO_7.out)⟩;have n2_:Aside0 (w68.heap[gb316]? = some (.cells #[.int .i64 a1_0,.int .i64 a1_1,.int .i64 a1_2] 24 (0,0))):=⟨by rw [← hq_];exact (kN BK316.out)⟩;have n3_:Aside0 (Below w.heap.size w w68):=⟨by rw [← hq_];exact (kB HB.out)⟩;clear HO_5 HO_7 BK316 HB hq_;have HO_5:=n0_;have HO_7:=n1_;have BK316:=n2_;have HB:=n3_;clear n0_ n1_ n2_ n3_))
    replace HO_5:=mk0 (dR HO_5.out)
    replace HO_7:=mk0 (dR HO_7.out)
    replace BK316:=mk0 (dB BK316.out)
    replace HB:=mk0 (dZ HB.out)
    refine start_ (n:=6) (S:=fun w'=>w'.cell? ⟨gb316,0,none⟩ = some (.int .i64 a1_0) ∧ w'.cell? ⟨gb316,1,none⟩ = some (.int .i64 a1_1) ∧ w'.cell? ⟨gb316,2,none⟩ = some (.int .i64 a1_2)) (ds:=[]) #[false,false,false,false,false,false] (by kernel_rfl) rfl rfl (ck3 BK316.out) (fun hHeld=>?_)
    generalize w68.drew = w69 at HO_5 HO_7 BK316 HB hHeld ⊢
    refine pure_ (i:=0) (N:=some 57) (v:=?_) (a':=?_) #[true,false,false,false,false,false] rfl rfl (by kernel_rfl) (fun _ _ _ h=>h) (Or.inl ⟨by rfl,?_⟩) ?_ ?_
    rotate_left
    ·intro w'
     go_simp
     with_reducible rfl
    rotate_left
    ·simp only [Act.put,sA,sO,sS,i64_w,i32_w]
     rfl
    refine take_ (i:=2) (N:=some 59) (v:=?_) (a':=?_) #[true,false,true,false,false,false] rfl rfl (by kernel_rfl) (fun _ _ _ h=>h) (Or.inl ⟨by rfl,?_⟩) hHeld ?_ ?_
    rotate_left
    ·rintro w' ⟨s0,s1,s2⟩
     go_simp
     with_reducible rfl
    rotate_left
    ·simp only [Act.put,sA,sO,sS,i64_w,i32_w]
     rfl
    refine one_ (i:=1) (N:=some 58) #[true,true,true,false,false,false] rfl rfl (by kernel_rfl) (by decide) (fun K hK=>?_)
    refine goes_ Try.func12 (by kernel_rfl) rfl #[.slice A0 l0.length c0] (by rfl) rfl rfl (by (try simp only [mA,mC,mN]);first|done|rfl|(simp only [List.length_drop,List.length_take];done)|(simp only [List.length_drop,List.length_take];rfl)) ?_
    with_reducible refine (laws_toByteS.calls kj16 _ _ l0 t346 _ ?side1 ?side2 A44.out).mono ?_
    (case side1=>exact kC (Kd.C_below HR0.out HB.out))
    (case side2=>exact HC0.out)
    rintro e w70 ⟨v347,rfl,ho0,hb⟩
    refine⟨_,rfl,?_⟩
    replace HO_5:=mk0 (bR HO_5.out hb)
    replace HO_7:=mk0 (bR HO_7.out hb)
    have HO348:=mk0 (Kd.R_lower ho0 (kZ HB.out))
    replace BK316:=mk0 (kK BK316.out hb)
    replace HB:=mk0 (kS HB.out hb)
    (try clear hb)
    (try clear ho0)
    refine hK.out _ _ (ck3 BK316.out) (fun hHeld=>?_)
    clear hK K
    refine norm_ (a':=?_) ?_ ?_
    rotate_left
    ·show Act.put _ (some 58) _ = _
     simp only [Act.put,sA,sO,sS,i64_w,i32_w]
     rfl
    refine one_ (i:=3) (N:=some 60) #[true,true,true,true,false,false] rfl rfl (by kernel_rfl) (by decide) (fun K hK=>?_)
    refine goes_ Try.func13 (by kernel_rfl) rfl #[.agg #[.int .i64 a1_0,.int .i64 a1_1,.int .i64 a1_2]] (by rfl) rfl rfl (by (try simp only [mA,mC,mN]);first|done|rfl|(simp only [List.length_drop,List.length_take];done)|(simp only [List.length_drop,List.length_take];rfl)) ?_
    with_reducible refine (laws_toStretch.calls a1_0 a1_1 a1_2 t349 t350 t351 _ A45.out).mono ?_
    rintro e w71 ⟨rfl,hb⟩
    refine⟨_,rfl,?_⟩
    replace HO_5:=mk0 (bR HO_5.out hb)
    replace HO_7:=mk0 (bR HO_7.out hb)
    replace HO348:=mk0 (bR HO348.out hb)
    replace BK316:=mk0 (kK BK316.out hb)
    replace HB:=mk0 (kS HB.out hb)
    (try clear hb)
    obtain⟨Ao72,co72,eo72⟩:=Kd.R_slice HO348.out
    (first|subst eo72|(injection eo72 with f1_ f2_ f3_;have f4_:=f1_.symm;have f5_:=f3_.symm;clear f1_ f2_ f3_;subst f4_;subst f5_))
    refine hK.out _ _ (ck3 BK316.out) (fun hHeld=>?_)
    clear hK K
    refine norm_ (a':=?_) ?_ ?_
    rotate_left
    ·show Act.put _ (some 60) _ = _
     simp only [Act.put,sA,sO,sS,i64_w,i32_w]
     rfl
    refine one_ (i:=4) (N:=some 61) #[true,true,true,true,true,false] rfl rfl (by kernel_rfl) (by decide) (fun K hK=>?_)
    refine goes_ Try.func33 (by kernel_rfl) rfl #[.slice Ao72 t346.length co72,.agg #[.int .i64 t349,.int .i64 t350,.int .i64 t351]] (by rfl) rfl rfl (by (try simp only [mA,mC,mN]);first|done|rfl|(simp only [List.length_drop,List.length_take];done)|(simp only [List.length_drop,List.length_take];rfl)) ?_
    with_reducible refine (impl_StretchKids.calls kj16 _ _ t346 t349 t350 t351 t352 _ ?side1 ?side2 A46.out).mono ?_
    (case side1=>exact kC (Kd.R_reads' HO348.out).2.2)
    (case side2=>exact (Kd.R_reads' HO348.out).2.1)
    rintro e w73 ⟨v353,rfl,ho0,hb⟩
    refine⟨_,rfl,?_⟩
    replace HO348:=mk0 (bR HO348.out hb)
    have HO354:=mk0 (Kd.R_lower (Kd.R_new' (Kd.R_new' ho0 (Kd.R_lt (rR HO_5.out))) (Kd.R_lt (rR HO_7.out))) (kZ HB.out))
    replace HO_5:=mk0 (Kd.R_elder' (rR HO_5.out) (Kd.R_base ho0) hb)
    replace HO_7:=mk0 (Kd.R_elder' (rR HO_7.out) (Kd.R_base ho0) hb)
    replace BK316:=mk0 (kK BK316.out hb)
    replace HB:=mk0 (kS HB.out hb)
    (try clear hb)
    (try clear ho0)
    refine hK.out _ _ (ck3 BK316.out) (fun hHeld=>?_)
    clear hK K
    refine norm_ (a':=?_) ?_ ?_
    rotate_left
    ·show Act.put _ (some 61) _ = _
     simp only [Act.put,sA,sO,sS,i64_w,i32_w]
     rfl
    refine pure_ (i:=5) (N:=some 11) (v:=?_) (a':=?_) #[true,true,true,true,true,true] rfl rfl (by kernel_rfl) (fun _ _ _ h=>h) (Or.inl ⟨by rfl,?_⟩) ?_ ?_
    rotate_left
    ·intro w'
     go_simp
     with_reducible rfl
    rotate_left
    ·simp only [Act.put,sA,sO,sS,i64_w,i32_w]
     rfl
    refine done_ (by kernel_rfl) ?_
    obtain⟨Ao74,co74,eo74⟩:=Kd.R_slice HO354.out
    subst eo74
    try go_wp2_with (first|((with_reducible refine gate_callee (f:=27) rfl ?_);refine goesL_ (some 64) rfl rfl Try.func27 (by kernel_rfl) rfl #[.slice Ao74 t352.length co74,.slice Ao30 t323.length co30] rfl (by (try simp only [mA,mC,mN]);first|done|rfl|(simp only [List.length_drop,List.length_take];done)|(simp only [List.length_drop,List.length_take];rfl)) ?_;(with_reducible refine (laws_eqStretchS.calls kj16 _ _ t352 _ _ t323 true _ ?side1 ?side2 ?side3 ?side4 A47.out).mono ?_);(case side1=>exact kC (Kd.R_reads' HO354.out).2.2);(case side2=>exact (Kd.R_reads' HO354.out).2.1);(case side3=>exact kC (Kd.R_reads' HO_5.out).2.2);(case side4=>exact (Kd.R_reads' HO_5.out).2.1);rintro e w75 ⟨rfl,hb⟩;refine⟨_,rfl,?_⟩;replace HO_5:=mk0 (bR HO_5.out hb);replace HO_7:=mk0 (bR HO_7.out hb);replace HO348:=mk0 (bR HO348.out hb);replace HO354:=mk0 (bR HO354.out hb);replace BK316:=mk0 (kK BK316.out hb);replace HB:=mk0 (kS HB.out hb);(try clear hb))|((with_reducible refine gate_callee (f:=29) rfl ?_);refine goesL_ (some 68) rfl rfl Try.func29 (by kernel_rfl) rfl #[.slice Ao29 t344.length co29,.int .i64 1] rfl (by (try simp only [mA,mC,mN]);first|done|(rw [show t344.length = t332.length from (Kd.R_reads' HO_7.out).1.symm] <;> rfl)|rfl|(simp only [List.length_drop,List.length_take];done)|(simp only [List.length_drop,List.length_take];rfl)) ?_;(with_reducible refine (laws_heldStretchS.calls kj16 _ _ t344 1 t356 _ ?side1 ?side2 A49.out).mono ?_);(case side1=>exact kC (Kd.R_reads' HO_7.out).2.2);(case side2=>rw [show t344.length = t332.length from (Kd.R_reads' HO_7.out).1.symm];exact (Kd.R_reads' HO_7.out).2.1);rintro e w' ⟨rfl,⟨nd,rfl⟩⟩;refine⟨_,rfl,?_⟩))
    go_ret
    exact⟨by first|rfl|(simp [errW_none,errW_some] <;> rfl)|(simp [*,errW_none,errW_some] <;> rfl),kB HB.out⟩
   rw [if_pos c59] at H
   have c59b0:(t356 == t343) = true:=beq_iff_eq.mpr c59
   have c59b1:(t356 != t343) = false:=bne_eq_false_iff_eq.mpr c59
   clear c59
   obtain rfl:=Option.some.inj H
   try go_wp2_with (first|((with_reducible refine gate_callee (f:=28) rfl ?_);refine goesL_ (some 48) rfl rfl Try.func28 (by kernel_rfl) rfl #[.slice Ao29 t332.length co29,.int .i64 1] rfl (by (try simp only [mA,mC,mN]);first|done|rfl|(simp only [List.length_drop,List.length_take];done)|(simp only [List.length_drop,List.length_take];rfl)) ?_;(with_reducible refine (laws_markStretchS.calls kj16 (fun k_=>some k_ = (.slice Ao29 t332.length co29:Value).ownBlock) (.slice Ao29 t332.length co29) t332 1 t343 t344 w _ ?side1 ?side2 A39.out).mono ?_);(case side1=>repeat (first|(with_reducible first|exact HB.out|apply aZ|apply nZ|apply dZ|refine sZ ?_ GE316.out)|exact HB.out));(case side2=>exact Kd.R_tight rfl HO_7.out);rintro e w60 ⟨rfl,hy0,hb,hkp⟩;refine⟨_,rfl,?_⟩;replace HO_5:=mk0 (Kd.R_mono (ok':=fun k_=>some k_ ≠ (.slice Ao29 t332.length co29:Value).ownBlock) (Kd.R_keptB (HO_5.out) hkp (fun k_ hk_ hs_=>(hk_) hs_)) (fun k_ hk_=>hk_.1));replace BK316:=mk0 (blk_kept (kN BK316.out) hkp (fun hs_=>(fun e_=>(Kd.R_ne HO_7.out BK316.out (by decide)) e_) hs_));replace HO_7:=mk0 (Kd.R_reok rfl hy0 (fun k_ e_=>HO_7.out.1 k_ e_));replace HB:=mk0 (hb);(try clear hb);(try clear hkp);(try clear hy0))|((with_reducible refine gate_callee (f:=29) rfl ?_);refine goesL_ (some 51) rfl rfl Try.func29 (by kernel_rfl) rfl #[.slice Ao29 t344.length co29,.int .i64 1] rfl (by (try simp only [mA,mC,mN]);first|done|(rw [show t344.length = t332.length from (Kd.R_reads' HO_7.out).1.symm] <;> rfl)|rfl|(simp only [List.length_drop,List.length_take];done)|(simp only [List.length_drop,List.length_take];rfl)) ?_;(with_reducible refine (laws_heldStretchS.calls kj16 _ _ t344 1 t345 _ ?side1 ?side2 A40.out).mono ?_);(case side1=>exact kC (Kd.R_reads' HO_7.out).2.2);(case side2=>rw [show t344.length = t332.length from (Kd.R_reads' HO_7.out).1.symm];exact (Kd.R_reads' HO_7.out).2.1);rintro e w' ⟨rfl,⟨nd,rfl⟩⟩;refine⟨_,rfl,?_⟩))
   (try (rw [drewN_self w60];generalize hq_:World.drewN w60 _ = w60;have n0_:Aside0 (Kd.R k27 27 w60 w.heap.size (fun k_=>some k_ ≠ (.slice Ao29 t332.length co29:Value).ownBlock) (.slice Ao30 t323.length co30) t323):=⟨by rw [← hq_];exact (rR HO_5.out)⟩;have n1_:Aside0 (Kd.R k27 27 w60 w.heap.size (fun k_=>some k_ ≠ (.slice Ao30 t323.length co30:Value).ownBlock) (.slice Ao29 t332.length co29) t344):=⟨by rw [← hq_];exact (rR HO_7.out)⟩;have n2_:Aside0 (w60.heap[gb316]? = some (.cells #[.int .i64 a1_0,.int .i64 a1_1,.int .i64 a1_2] 24 (0,0))):=⟨by rw [← hq_];exact (kN BK316.out)⟩;have n3_:Aside0 (Below w.heap.size w w60):=⟨by rw [← hq_];exact (kB HB.out)⟩;clear HO_5 HO_7 BK316 HB hq_;have HO_5:=n0_;have HO_7:=n1_;have BK316:=n2_;have HB:=n3_;clear n0_ n1_ n2_ n3_))
   replace HO_5:=mk0 (dR HO_5.out)
   replace HO_7:=mk0 (dR HO_7.out)
   replace BK316:=mk0 (dB BK316.out)
   replace HB:=mk0 (dZ HB.out)
   refine start_ (n:=6) (S:=fun w'=>w'.cell? ⟨gb316,0,none⟩ = some (.int .i64 a1_0) ∧ w'.cell? ⟨gb316,1,none⟩ = some (.int .i64 a1_1) ∧ w'.cell? ⟨gb316,2,none⟩ = some (.int .i64 a1_2)) (ds:=[]) #[false,false,false,false,false,false] (by kernel_rfl) rfl rfl (ck3 BK316.out) (fun hHeld=>?_)
   generalize w60.drew = w61 at HO_5 HO_7 BK316 HB hHeld ⊢
   refine pure_ (i:=0) (N:=some 57) (v:=?_) (a':=?_) #[true,false,false,false,false,false] rfl rfl (by kernel_rfl) (fun _ _ _ h=>h) (Or.inl ⟨by rfl,?_⟩) ?_ ?_
   rotate_left
   ·intro w'
    go_simp
    with_reducible rfl
   rotate_left
   ·simp only [Act.put,sA,sO,sS,i64_w,i32_w]
    rfl
   refine take_ (i:=2) (N:=some 59) (v:=?_) (a':=?_) #[true,false,true,false,false,false] rfl rfl (by kernel_rfl) (fun _ _ _ h=>h) (Or.inl ⟨by rfl,?_⟩) hHeld ?_ ?_
   rotate_left
   ·rintro w' ⟨s0,s1,s2⟩
    go_simp
    with_reducible rfl
   rotate_left
   ·simp only [Act.put,sA,sO,sS,i64_w,i32_w]
    rfl
   refine one_ (i:=1) (N:=some 58) #[true,true,true,false,false,false] rfl rfl (by kernel_rfl) (by decide) (fun K hK=>?_)
   refine goes_ Try.func12 (by kernel_rfl) rfl #[.slice A0 l0.length c0] (by rfl) rfl rfl (by (try simp only [mA,mC,mN]);first|done|rfl|(simp only [List.length_drop,List.length_take];done)|(simp only [List.length_drop,List.length_take];rfl)) ?_
   with_reducible refine (laws_toByteS.calls kj16 _ _ l0 t346 _ ?side1 ?side2 A44.out).mono ?_
   (case side1=>exact kC (Kd.C_below HR0.out HB.out))
   (case side2=>exact HC0.out)
   rintro e w62 ⟨v347,rfl,ho0,hb⟩
   refine⟨_,rfl,?_⟩
   replace HO_5:=mk0 (bR HO_5.out hb)
   replace HO_7:=mk0 (bR HO_7.out hb)
   have HO348:=mk0 (Kd.R_lower ho0 (kZ HB.out))
   replace BK316:=mk0 (kK BK316.out hb)
   replace HB:=mk0 (kS HB.out hb)
   (try clear hb)
   (try clear ho0)
   refine hK.out _ _ (ck3 BK316.out) (fun hHeld=>?_)
   clear hK K
   refine norm_ (a':=?_) ?_ ?_
   rotate_left
   ·show Act.put _ (some 58) _ = _
    simp only [Act.put,sA,sO,sS,i64_w,i32_w]
    rfl
   refine one_ (i:=3) (N:=some 60) #[true,true,true,true,false,false] rfl rfl (by kernel_rfl) (by decide) (fun K hK=>?_)
   refine goes_ Try.func13 (by kernel_rfl) rfl #[.agg #[.int .i64 a1_0,.int .i64 a1_1,.int .i64 a1_2]] (by rfl) rfl rfl (by (try simp only [mA,mC,mN]);first|done|rfl|(simp only [List.length_drop,List.length_take];done)|(simp only [List.length_drop,List.length_take];rfl)) ?_
   with_reducible refine (laws_toStretch.calls a1_0 a1_1 a1_2 t349 t350 t351 _ A45.out).mono ?_
   rintro e w63 ⟨rfl,hb⟩
   refine⟨_,rfl,?_⟩
   replace HO_5:=mk0 (bR HO_5.out hb)
   replace HO_7:=mk0 (bR HO_7.out hb)
   replace HO348:=mk0 (bR HO348.out hb)
   replace BK316:=mk0 (kK BK316.out hb)
   replace HB:=mk0 (kS HB.out hb)
   (try clear hb)
   obtain⟨Ao64,co64,eo64⟩:=Kd.R_slice HO348.out
   (first|subst eo64|(injection eo64 with f1_ f2_ f3_;have f4_:=f1_.symm;have f5_:=f3_.symm;clear f1_ f2_ f3_;subst f4_;subst f5_))
   refine hK.out _ _ (ck3 BK316.out) (fun hHeld=>?_)
   clear hK K
   refine norm_ (a':=?_) ?_ ?_
   rotate_left
   ·show Act.put _ (some 60) _ = _
    simp only [Act.put,sA,sO,sS,i64_w,i32_w]
    rfl
   refine one_ (i:=4) (N:=some 61) #[true,true,true,true,true,false] rfl rfl (by kernel_rfl) (by decide) (fun K hK=>?_)
   refine goes_ Try.func33 (by kernel_rfl) rfl #[.slice Ao64 t346.length co64,.agg #[.int .i64 t349,.int .i64 t350,.int .i64 t351]] (by rfl) rfl rfl (by (try simp only [mA,mC,mN]);first|done|rfl|(simp only [List.length_drop,List.length_take];done)|(simp only [List.length_drop,List.length_take];rfl)) ?_
   with_reducible refine (impl_StretchKids.calls kj16 _ _ t346 t349 t350 t351 t352 _ ?side1 ?side2 A46.out).mono ?_
   (case side1=>exact kC (Kd.R_reads' HO348.out).2.2)
   (case side2=>exact (Kd.R_reads' HO348.out).2.1)
   rintro e w65 ⟨v353,rfl,ho0,hb⟩
   refine⟨_,rfl,?_⟩
   replace HO348:=mk0 (bR HO348.out hb)
   have HO354:=mk0 (Kd.R_lower (Kd.R_new' (Kd.R_new' ho0 (Kd.R_lt (rR HO_5.out))) (Kd.R_lt (rR HO_7.out))) (kZ HB.out))
   replace HO_5:=mk0 (Kd.R_elder' (rR HO_5.out) (Kd.R_base ho0) hb)
   replace HO_7:=mk0 (Kd.R_elder' (rR HO_7.out) (Kd.R_base ho0) hb)
   replace BK316:=mk0 (kK BK316.out hb)
   replace HB:=mk0 (kS HB.out hb)
   (try clear hb)
   (try clear ho0)
   refine hK.out _ _ (ck3 BK316.out) (fun hHeld=>?_)
   clear hK K
   refine norm_ (a':=?_) ?_ ?_
   rotate_left
   ·show Act.put _ (some 61) _ = _
    simp only [Act.put,sA,sO,sS,i64_w,i32_w]
    rfl
   refine pure_ (i:=5) (N:=some 11) (v:=?_) (a':=?_) #[true,true,true,true,true,true] rfl rfl (by kernel_rfl) (fun _ _ _ h=>h) (Or.inl ⟨by rfl,?_⟩) ?_ ?_
   rotate_left
   ·intro w'
    go_simp
    with_reducible rfl
   rotate_left
   ·simp only [Act.put,sA,sO,sS,i64_w,i32_w]
    rfl
   refine done_ (by kernel_rfl) ?_
   obtain⟨Ao66,co66,eo66⟩:=Kd.R_slice HO354.out
   subst eo66
   try go_wp2_with (first|((with_reducible refine gate_callee (f:=27) rfl ?_);refine goesL_ (some 64) rfl rfl Try.func27 (by kernel_rfl) rfl #[.slice Ao66 t352.length co66,.slice Ao30 t323.length co30] rfl (by (try simp only [mA,mC,mN]);first|done|rfl|(simp only [List.length_drop,List.length_take];done)|(simp only [List.length_drop,List.length_take];rfl)) ?_;(with_reducible refine (laws_eqStretchS.calls kj16 _ _ t352 _ _ t323 true _ ?side1 ?side2 ?side3 ?side4 A47.out).mono ?_);(case side1=>exact kC (Kd.R_reads' HO354.out).2.2);(case side2=>exact (Kd.R_reads' HO354.out).2.1);(case side3=>exact kC (Kd.R_reads' HO_5.out).2.2);(case side4=>exact (Kd.R_reads' HO_5.out).2.1);rintro e w67 ⟨rfl,hb⟩;refine⟨_,rfl,?_⟩;replace HO_5:=mk0 (bR HO_5.out hb);replace HO_7:=mk0 (bR HO_7.out hb);replace HO348:=mk0 (bR HO348.out hb);replace HO354:=mk0 (bR HO354.out hb);replace BK316:=mk0 (kK BK316.out hb);replace HB:=mk0 (kS HB.out hb);(try clear hb))|((with_reducible refine gate_callee (f:=29) rfl ?_);refine goesL_ (some 68) rfl rfl Try.func29 (by kernel_rfl) rfl #[.slice Ao29 t344.length co29,.int .i64 1] rfl (by (try simp only [mA,mC,mN]);first|done|(rw [show t344.length = t332.length from (Kd.R_reads' HO_7.out).1.symm] <;> rfl)|rfl|(simp only [List.length_drop,List.length_take];done)|(simp only [List.length_drop,List.length_take];rfl)) ?_;(with_reducible refine (laws_heldStretchS.calls kj16 _ _ t344 1 t356 _ ?side1 ?side2 A49.out).mono ?_);(case side1=>exact kC (Kd.R_reads' HO_7.out).2.2);(case side2=>rw [show t344.length = t332.length from (Kd.R_reads' HO_7.out).1.symm];exact (Kd.R_reads' HO_7.out).2.1);rintro e w' ⟨rfl,⟨nd,rfl⟩⟩;refine⟨_,rfl,?_⟩))
   go_ret
   exact⟨by first|rfl|(simp [errW_none,errW_some] <;> rfl)|(simp [*,errW_none,errW_some] <;> rfl),kB HB.out⟩
/-- The plain statement of laws_FnExactStretchKids. -/
def laws_FnExactStretchKids.Pure : Prop := ∀ (l0 : List Int) (a1_0 : Int) (a1_1 : Int) (a1_2 : Int), (Fv.OkL (Fv.OkI .u8)) l0 → ok24 ((⟨a1_0, a1_1, a1_2⟩ : S24)) → ∃ k, laws_FnExactStretchKids.f k l0 a1_0 a1_1 a1_2 = some true

end Go.Proofs.Ytoinagnieobbpaa.QFnExactStretchKids
