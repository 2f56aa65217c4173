-- A walk, made by walk.py, a program of this session's.
import Derived.Test.YtoinagnieobbpaaQFnExactStretchWordx0
import Derived.Test.YtoinagnieobbpaaQFnExactStretchWordx1
import Derived.Test.YtoinagnieobbpaaQFnExactStretchWordx4
import Derived.Test.YtoinagnieobbpaaQFnExactStretchWordx8
namespace Go.Proofs.Ytoinagnieobbpaa.QFnExactStretchWord
open Go.RowKit Go.Proofs.YtoinagnieobbpaaW.PrintWords Go.Proofs.YtoinagnieobbpaaW.PrintLast Go.Proofs.YtoinagnieobbpaaW.PrintMore
attribute [local go_sem] max2_int min2_int max_two min_two max_three min_three max_four min_four   -- for this text's walks alone
set_option linter.unusedVariables false
set_option linter.unusedSimpArgs false

/-! ### laws_FnExactStretchWord: function 4 -/
def laws_FnExactStretchWord.j0 : Nat → List Int → List Int → List Int → Bool → Int → Int → Int → Option (Bool)
 | 0, _, _, _, _, _, _, _ => none
 | k + 1, x0, x5, x7, x45, x239000, x239001, x239002 => if x45 = true then (some false) else ((laws_markByteS.f k x7 1).bind fun bt265 => ((laws_heldByteS.f k bt265.2 1).bind fun t267 => (if t267 < 0 then (some false) else (if t267 = bt265.1 then ((laws_toByteS.f k x0).bind fun t268 => ((laws_toStretch.f x239000 x239001 x239002).bind fun bt271 => ((impl_StretchWord.f k t268 bt271.1 bt271.2.1 bt271.2.2).bind fun t274 => ((laws_eqByteS.f k t274 x5).bind fun t277 => (if t277 = true then ((laws_heldByteS.f k bt265.2 1).bind fun t278 => (if t278 < 0 then (some false) else (if t278 = bt265.1 then (some true) else (some false)))) else (some false)))))) else (some false)))))
def laws_FnExactStretchWord.f (k : Nat) (l0 : List Int) (a1_0 : Int) (a1_1 : Int) (a1_2 : Int) : Option (Bool) := if (l0.length : Int) > 1048576 then (some true) else ((laws_toByteS.f k l0).bind fun t239 => ((laws_toStretch.f a1_0 a1_1 a1_2).bind fun bt242 => ((spec_StretchWord.f k t239 bt242.1 bt242.2.1 bt242.2.2).bind fun t245 => ((laws_toByteS.f k l0).bind fun t248 => ((laws_toStretch.f a1_0 a1_1 a1_2).bind fun bt251 => ((impl_StretchWord.f k t248 bt251.1 bt251.2.1 bt251.2.2).bind fun t254 => ((laws_eqByteS.f k t254 t245).bind fun t257 => (if t257 = true then ((laws_toByteS.f k l0).bind fun t258 => ((laws_eqByteS.f k t248 t258).bind fun t261 => (if t261 = true then ((laws_markByteS.f k t248 1).bind fun bt262 => (if bt262.1 < 0 then (laws_FnExactStretchWord.j0 k l0 t245 t254 true a1_0 a1_1 a1_2) else ((laws_eqByteS.f k t254 t245).bind fun t264 => (laws_FnExactStretchWord.j0 k l0 t245 t254 (!t264) a1_0 a1_1 a1_2)))) else (some false)))) else (some false)))))))))
theorem laws_FnExactStretchWord.mono_l : ∀ k, (∀ y0 y1 y2 y3 y4 y5 y6, LeO (laws_FnExactStretchWord.j0 k y0 y1 y2 y3 y4 y5 y6) (laws_FnExactStretchWord.j0 (k + 1) y0 y1 y2 y3 y4 y5 y6))
 | 0 => fun _ _ _ _ _ _ _ r h => by simp [laws_FnExactStretchWord.j0] at h
 | k + 1 => by
  have ih0 := laws_FnExactStretchWord.mono_l k
  ·intro y0 y1 y2 y3 y4 y5 y6
   unfold laws_FnExactStretchWord.j0
   repeat' first|(with_reducible first|exact ih0 _ _ _ _ _ _ _|exact impl_StretchWord.mono _ _ _ _ _|exact laws_eqByteS.mono _ _ _|exact laws_heldByteS.mono _ _ _|exact laws_markByteS.mono _ _ _|exact laws_toByteS.mono _ _|exact spec_StretchWord.mono _ _ _ _ _|exact LeO.refl _|exact LeO.none _|refine LeO.ite ?_ ?_|refine LeO.bind ?_ (fun _ => ?_))|exact LeO.none _|refine LeO.ite ?_ ?_|refine LeO.bind ?_ (fun _ => ?_)
theorem laws_FnExactStretchWord.mono : ∀ a0 a1 a2 a3 k, LeO (laws_FnExactStretchWord.f k a0 a1 a2 a3) (laws_FnExactStretchWord.f (k + 1) a0 a1 a2 a3) := by
 intro a0 a1 a2 a3 k
 have ih0 := laws_FnExactStretchWord.mono_l k
 unfold laws_FnExactStretchWord.f
 repeat' first|(with_reducible first|exact ih0 _ _ _ _ _ _ _|exact impl_StretchWord.mono _ _ _ _ _|exact laws_eqByteS.mono _ _ _|exact laws_heldByteS.mono _ _ _|exact laws_markByteS.mono _ _ _|exact laws_toByteS.mono _ _|exact spec_StretchWord.mono _ _ _ _ _|exact LeO.refl _|exact LeO.none _|refine LeO.ite ?_ ?_|refine LeO.bind ?_ (fun _ => ?_))|exact LeO.none _|refine LeO.ite ?_ ?_|refine LeO.bind ?_ (fun _ => ?_)
set_option maxHeartbeats 8000000 in
set_option maxRecDepth 100000 in
theorem laws_FnExactStretchWord.calls (k : Nat) (A0 : Option Addr) (c0 : Nat) (l0 : List Int) (a1_0 : Int) (a1_1 : Int) (a1_2 : Int) (r : Bool) (w : World) (hr0 : Kd.C (Kd.int .u8) w A0 l0.length l0) (hc0 : l0.length ≤ c0) (h : laws_FnExactStretchWord.f k l0 a1_0 a1_1 a1_2 = some r) :
  Calls Try.prog 4 #[.slice A0 l0.length c0, .agg #[.int .i64 a1_0, .int .i64 a1_1, .int .i64 a1_2]] w fun e w' => e = .returned (.bool r) ∧ Below w.heap.size w w' := by
 have hu24:=Try.underlying24
 have HR0:=mk0 hr0
 have HC0:=mk0 hc0
 clear hr0 hc0
 have HB:=mk0 (Below.refl w.heap.size w)
 have H:(if (l0.length:Int) > 1048576 then (some true) else ((laws_toByteS.f k l0).bind fun t239=>((laws_toStretch.f a1_0 a1_1 a1_2).bind fun bt242=>((spec_StretchWord.f k t239 bt242.1 bt242.2.1 bt242.2.2).bind fun t245=>((laws_toByteS.f k l0).bind fun t248=>((laws_toStretch.f a1_0 a1_1 a1_2).bind fun bt251=>((impl_StretchWord.f k t248 bt251.1 bt251.2.1 bt251.2.2).bind fun t254=>((laws_eqByteS.f k t254 t245).bind fun t257=>(if t257 = true then ((laws_toByteS.f k l0).bind fun t258=>((laws_eqByteS.f k t248 t258).bind fun t261=>(if t261 = true then ((laws_markByteS.f k t248 1).bind fun bt262=>(if bt262.1 < 0 then (laws_FnExactStretchWord.j0 k l0 t245 t254 true a1_0 a1_1 a1_2) else ((laws_eqByteS.f k t254 t245).bind fun t264=>(laws_FnExactStretchWord.j0 k l0 t245 t254 (!t264) a1_0 a1_1 a1_2)))) else (some false)))) else (some false)))))))))) = some r:=h
 clear h
 by_cases c3:(l0.length:Int) > 1048576
 ·rw [if_pos c3] at H
  have c3b0:decide (1048576 < (l0.length:Int)) = true:=decide_eq_true c3
  have c3b1:decide (1048576 < l0.length) = true:=decide_eq_true (by omega)
  clear c3
  obtain rfl:=Option.some.inj H
  go_enter Try.func4,Try.ntmps4
  go_wp2_with (first|((with_reducible refine gate_dst (N:=3) rfl ?_);refine box_event ?hg (N:=3) ?hd (cs:=#[.int .i64 a1_0,.int .i64 a1_1,.int .i64 a1_2]) (t:=24) ?hr ?_;(case hd=>rfl);(case hg=>rfl);(case hr=>first|(go_simp;done)|(go_simp;rfl));intro gb238 hg w4 hbox hb;have BK238:=mk0 (hbox);have GW238:=mk0 ((by rw [hg];exact (kZ HB.out):w.heap.size ≤ gb238));have GE238:=mk0 ((by rw [hg];exact (kZ HB.out):w.heap.size ≤ gb238));replace HB:=mk0 (kS HB.out hb);clear hb hbox hg))
  go_ret
  exact⟨by first|rfl|(simp [errW_none,errW_some] <;> rfl)|(simp [*,errW_none,errW_some] <;> rfl),kB HB.out⟩
 rw [if_neg c3] at H
 have c3b0:decide (1048576 < (l0.length:Int)) = false:=decide_eq_false c3
 have c3b1:decide (1048576 < l0.length) = false:=decide_eq_false (by omega)
 clear c3
 replace H:=Option.bind_eq_some_iff.mp H
 obtain⟨t239,A50,H⟩:=H
 replace H:((laws_toStretch.f a1_0 a1_1 a1_2).bind fun bt242=>((spec_StretchWord.f k t239 bt242.1 bt242.2.1 bt242.2.2).bind fun t245=>((laws_toByteS.f k l0).bind fun t248=>((laws_toStretch.f a1_0 a1_1 a1_2).bind fun bt251=>((impl_StretchWord.f k t248 bt251.1 bt251.2.1 bt251.2.2).bind fun t254=>((laws_eqByteS.f k t254 t245).bind fun t257=>(if t257 = true then ((laws_toByteS.f k l0).bind fun t258=>((laws_eqByteS.f k t248 t258).bind fun t261=>(if t261 = true then ((laws_markByteS.f k t248 1).bind fun bt262=>(if bt262.1 < 0 then (laws_FnExactStretchWord.j0 k l0 t245 t254 true a1_0 a1_1 a1_2) else ((laws_eqByteS.f k t254 t245).bind fun t264=>(laws_FnExactStretchWord.j0 k l0 t245 t254 (!t264) a1_0 a1_1 a1_2)))) else (some false)))) else (some false)))))))) = some r:=H
 have A5:=mk0 A50
 clear A50
 replace H:=Option.bind_eq_some_iff.mp H
 obtain⟨⟨t242,t243,t244⟩,A60,H⟩:=H
 replace H:((spec_StretchWord.f k t239 t242 t243 t244).bind fun t245=>((laws_toByteS.f k l0).bind fun t248=>((laws_toStretch.f a1_0 a1_1 a1_2).bind fun bt251=>((impl_StretchWord.f k t248 bt251.1 bt251.2.1 bt251.2.2).bind fun t254=>((laws_eqByteS.f k t254 t245).bind fun t257=>(if t257 = true then ((laws_toByteS.f k l0).bind fun t258=>((laws_eqByteS.f k t248 t258).bind fun t261=>(if t261 = true then ((laws_markByteS.f k t248 1).bind fun bt262=>(if bt262.1 < 0 then (laws_FnExactStretchWord.j0 k l0 t245 t254 true a1_0 a1_1 a1_2) else ((laws_eqByteS.f k t254 t245).bind fun t264=>(laws_FnExactStretchWord.j0 k l0 t245 t254 (!t264) a1_0 a1_1 a1_2)))) else (some false)))) else (some false))))))) = some r:=H
 have A6:=mk0 A60
 clear A60
 replace H:=Option.bind_eq_some_iff.mp H
 obtain⟨t245,A70,H⟩:=H
 replace H:((laws_toByteS.f k l0).bind fun t248=>((laws_toStretch.f a1_0 a1_1 a1_2).bind fun bt251=>((impl_StretchWord.f k t248 bt251.1 bt251.2.1 bt251.2.2).bind fun t254=>((laws_eqByteS.f k t254 t245).bind fun t257=>(if t257 = true then ((laws_toByteS.f k l0).bind fun t258=>((laws_eqByteS.f k t248 t258).bind fun t261=>(if t261 = true then ((laws_markByteS.f k t248 1).bind fun bt262=>(if bt262.1 < 0 then (laws_FnExactStretchWord.j0 k l0 t245 t254 true a1_0 a1_1 a1_2) else ((laws_eqByteS.f k t254 t245).bind fun t264=>(laws_FnExactStretchWord.j0 k l0 t245 t254 (!t264) a1_0 a1_1 a1_2)))) else (some false)))) else (some false)))))) = some r:=H
 have A7:=mk0 A70
 clear A70
 replace H:=Option.bind_eq_some_iff.mp H
 obtain⟨t248,A80,H⟩:=H
 replace H:((laws_toStretch.f a1_0 a1_1 a1_2).bind fun bt251=>((impl_StretchWord.f k t248 bt251.1 bt251.2.1 bt251.2.2).bind fun t254=>((laws_eqByteS.f k t254 t245).bind fun t257=>(if t257 = true then ((laws_toByteS.f k l0).bind fun t258=>((laws_eqByteS.f k t248 t258).bind fun t261=>(if t261 = true then ((laws_markByteS.f k t248 1).bind fun bt262=>(if bt262.1 < 0 then (laws_FnExactStretchWord.j0 k l0 t245 t254 true a1_0 a1_1 a1_2) else ((laws_eqByteS.f k t254 t245).bind fun t264=>(laws_FnExactStretchWord.j0 k l0 t245 t254 (!t264) a1_0 a1_1 a1_2)))) else (some false)))) else (some false))))) = some r:=H
 have A8:=mk0 A80
 clear A80
 replace H:=Option.bind_eq_some_iff.mp H
 obtain⟨⟨t251,t252,t253⟩,A90,H⟩:=H
 replace H:((impl_StretchWord.f k t248 t251 t252 t253).bind fun t254=>((laws_eqByteS.f k t254 t245).bind fun t257=>(if t257 = true then ((laws_toByteS.f k l0).bind fun t258=>((laws_eqByteS.f k t248 t258).bind fun t261=>(if t261 = true then ((laws_markByteS.f k t248 1).bind fun bt262=>(if bt262.1 < 0 then (laws_FnExactStretchWord.j0 k l0 t245 t254 true a1_0 a1_1 a1_2) else ((laws_eqByteS.f k t254 t245).bind fun t264=>(laws_FnExactStretchWord.j0 k l0 t245 t254 (!t264) a1_0 a1_1 a1_2)))) else (some false)))) else (some false)))) = some r:=H
 have A9:=mk0 A90
 clear A90
 replace H:=Option.bind_eq_some_iff.mp H
 obtain⟨t254,A100,H⟩:=H
 replace H:((laws_eqByteS.f k t254 t245).bind fun t257=>(if t257 = true then ((laws_toByteS.f k l0).bind fun t258=>((laws_eqByteS.f k t248 t258).bind fun t261=>(if t261 = true then ((laws_markByteS.f k t248 1).bind fun bt262=>(if bt262.1 < 0 then (laws_FnExactStretchWord.j0 k l0 t245 t254 true a1_0 a1_1 a1_2) else ((laws_eqByteS.f k t254 t245).bind fun t264=>(laws_FnExactStretchWord.j0 k l0 t245 t254 (!t264) a1_0 a1_1 a1_2)))) else (some false)))) else (some false))) = some r:=H
 have A10:=mk0 A100
 clear A100
 replace H:=Option.bind_eq_some_iff.mp H
 obtain⟨t257,A110,H⟩:=H
 replace H:(if t257 = true then ((laws_toByteS.f k l0).bind fun t258=>((laws_eqByteS.f k t248 t258).bind fun t261=>(if t261 = true then ((laws_markByteS.f k t248 1).bind fun bt262=>(if bt262.1 < 0 then (laws_FnExactStretchWord.j0 k l0 t245 t254 true a1_0 a1_1 a1_2) else ((laws_eqByteS.f k t254 t245).bind fun t264=>(laws_FnExactStretchWord.j0 k l0 t245 t254 (!t264) a1_0 a1_1 a1_2)))) else (some false)))) else (some false)) = some r:=H
 have A11:=mk0 A110
 clear A110
 by_cases c12:t257 = true
 rotate_left
 ·replace c12:=Bool.eq_false_iff.mpr c12
  subst c12
  have H1:(some false) = some r:=by rw [if_neg (show ¬ (false = true) by decide)] at H;exact H
  clear H
  have H:=H1
  clear H1
  obtain rfl:=Option.some.inj H
  go_enter Try.func4,Try.ntmps4
  try go_wp2_with (first|((with_reducible refine gate_dst (N:=3) rfl ?_);refine box_event ?hg (N:=3) ?hd (cs:=#[.int .i64 a1_0,.int .i64 a1_1,.int .i64 a1_2]) (t:=24) ?hr ?_;(case hd=>rfl);(case hg=>rfl);(case hr=>first|(go_simp;done)|(go_simp;rfl));intro gb238 hg w94 hbox hb;have BK238:=mk0 (hbox);have GW238:=mk0 ((by rw [hg];exact (kZ HB.out):w.heap.size ≤ gb238));have GE238:=mk0 ((by rw [hg];exact (kZ HB.out):w.heap.size ≤ gb238));replace HB:=mk0 (kS HB.out hb);clear hb hbox hg))
  replace BK238:=mk0 (dB BK238.out)
  replace HB:=mk0 (dZ HB.out)
  refine start_ (n:=6) (S:=fun w'=>w'.cell? ⟨gb238,0,none⟩ = some (.int .i64 a1_0) ∧ w'.cell? ⟨gb238,1,none⟩ = some (.int .i64 a1_1) ∧ w'.cell? ⟨gb238,2,none⟩ = some (.int .i64 a1_2)) (ds:=[]) #[false,false,false,false,false,false] (by kernel_rfl) rfl rfl (ck3 BK238.out) (fun hHeld=>?_)
  generalize w94.drew = w95 at BK238 HB hHeld ⊢
  refine pure_ (i:=0) (N:=some 15) (v:=?_) (a':=?_) #[true,false,false,false,false,false] rfl rfl (by kernel_rfl) (fun _ _ _ h=>h) (Or.inl ⟨by rfl,?_⟩) ?_ ?_
  rotate_left
  ·intro w'
   go_simp
   with_reducible rfl
  rotate_left
  ·simp only [Act.put,sA,sO,sS,i64_w,i32_w]
   rfl
  refine take_ (i:=2) (N:=some 17) (v:=?_) (a':=?_) #[true,false,true,false,false,false] rfl rfl (by kernel_rfl) (fun _ _ _ h=>h) (Or.inl ⟨by rfl,?_⟩) hHeld ?_ ?_
  rotate_left
  ·rintro w' ⟨s0,s1,s2⟩
   go_simp
   with_reducible rfl
  rotate_left
  ·simp only [Act.put,sA,sO,sS,i64_w,i32_w]
   rfl
  refine one_ (i:=1) (N:=some 16) #[true,true,true,false,false,false] rfl rfl (by kernel_rfl) (by decide) (fun K hK=>?_)
  refine goes_ Try.func12 (by kernel_rfl) rfl #[.slice A0 l0.length c0] (by rfl) rfl rfl (by (try simp only [mA,mC,mN]);first|done|rfl|(simp only [List.length_drop,List.length_take];done)|(simp only [List.length_drop,List.length_take];rfl)) ?_
  with_reducible refine (laws_toByteS.calls k _ _ l0 t239 _ ?side1 ?side2 A5.out).mono ?_
  (case side1=>exact kC (Kd.C_below HR0.out HB.out))
  (case side2=>exact HC0.out)
  rintro e w96 ⟨v240,rfl,ho0,hb⟩
  refine⟨_,rfl,?_⟩
  have HO241:=mk0 (Kd.R_lower ho0 (kZ HB.out))
  replace BK238:=mk0 (kK BK238.out hb)
  replace HB:=mk0 (kS HB.out hb)
  (try clear hb)
  (try clear ho0)
  refine hK.out _ _ (ck3 BK238.out) (fun hHeld=>?_)
  clear hK K
  refine norm_ (a':=?_) ?_ ?_
  rotate_left
  ·show Act.put _ (some 16) _ = _
   simp only [Act.put,sA,sO,sS,i64_w,i32_w]
   rfl
  refine one_ (i:=3) (N:=some 18) #[true,true,true,true,false,false] rfl rfl (by kernel_rfl) (by decide) (fun K hK=>?_)
  refine goes_ Try.func13 (by kernel_rfl) rfl #[.agg #[.int .i64 a1_0,.int .i64 a1_1,.int .i64 a1_2]] (by rfl) rfl rfl (by (try simp only [mA,mC,mN]);first|done|rfl|(simp only [List.length_drop,List.length_take];done)|(simp only [List.length_drop,List.length_take];rfl)) ?_
  with_reducible refine (laws_toStretch.calls a1_0 a1_1 a1_2 t242 t243 t244 _ A6.out).mono ?_
  rintro e w97 ⟨rfl,hb⟩
  refine⟨_,rfl,?_⟩
  replace HO241:=mk0 (bR HO241.out hb)
  replace BK238:=mk0 (kK BK238.out hb)
  replace HB:=mk0 (kS HB.out hb)
  (try clear hb)
  obtain⟨Ao98,co98,eo98⟩:=Kd.R_slice HO241.out
  (first|subst eo98|(injection eo98 with f1_ f2_ f3_;have f4_:=f1_.symm;have f5_:=f3_.symm;clear f1_ f2_ f3_;subst f4_;subst f5_))
  refine hK.out _ _ (ck3 BK238.out) (fun hHeld=>?_)
  clear hK K
  refine norm_ (a':=?_) ?_ ?_
  rotate_left
  ·show Act.put _ (some 18) _ = _
   simp only [Act.put,sA,sO,sS,i64_w,i32_w]
   rfl
  refine one_ (i:=4) (N:=some 19) #[true,true,true,true,true,false] rfl rfl (by kernel_rfl) (by decide) (fun K hK=>?_)
  refine goes_ Try.func16 (by kernel_rfl) rfl #[.slice Ao98 t239.length co98,.agg #[.int .i64 t242,.int .i64 t243,.int .i64 t244]] (by rfl) rfl rfl (by (try simp only [mA,mC,mN]);first|done|rfl|(simp only [List.length_drop,List.length_take];done)|(simp only [List.length_drop,List.length_take];rfl)) ?_
  with_reducible refine (spec_StretchWord.calls k _ _ t239 t242 t243 t244 t245 _ ?side1 ?side2 A7.out).mono ?_
  (case side1=>exact kC (Kd.R_reads' HO241.out).2.2)
  (case side2=>exact (Kd.R_reads' HO241.out).2.1)
  rintro e w99 ⟨v246,rfl,ho0,hb⟩
  refine⟨_,rfl,?_⟩
  have HO247:=mk0 (Kd.R_lower (Kd.R_new' ho0 (Kd.R_lt (rR HO241.out))) (kZ HB.out))
  replace HO241:=mk0 (Kd.R_elder' (rR HO241.out) (Kd.R_base ho0) hb)
  replace BK238:=mk0 (kK BK238.out hb)
  replace HB:=mk0 (kS HB.out hb)
  (try clear hb)
  (try clear ho0)
  refine hK.out _ _ (ck3 BK238.out) (fun hHeld=>?_)
  clear hK K
  refine norm_ (a':=?_) ?_ ?_
  rotate_left
  ·show Act.put _ (some 19) _ = _
   simp only [Act.put,sA,sO,sS,i64_w,i32_w]
   rfl
  refine pure_ (i:=5) (N:=some 5) (v:=?_) (a':=?_) #[true,true,true,true,true,true] rfl rfl (by kernel_rfl) (fun _ _ _ h=>h) (Or.inl ⟨by rfl,?_⟩) ?_ ?_
  rotate_left
  ·intro w'
   go_simp
   with_reducible rfl
  rotate_left
  ·simp only [Act.put,sA,sO,sS,i64_w,i32_w]
   rfl
  refine done_ (by kernel_rfl) ?_
  try go_wp2_with (first|((with_reducible refine gate_callee (f:=12) rfl ?_);refine goesL_ (some 21) rfl rfl Try.func12 (by kernel_rfl) rfl #[.slice A0 l0.length c0] rfl (by (try simp only [mA,mC,mN]);first|done|rfl|(simp only [List.length_drop,List.length_take];done)|(simp only [List.length_drop,List.length_take];rfl)) ?_;(with_reducible refine (laws_toByteS.calls k _ _ l0 t248 _ ?side1 ?side2 A8.out).mono ?_);(case side1=>exact kC (Kd.C_below HR0.out HB.out));(case side2=>exact HC0.out);rintro e w100 ⟨v249,rfl,ho0,hb⟩;refine⟨_,rfl,?_⟩;have HO250:=mk0 (Kd.R_lower (Kd.R_new' (Kd.R_new' ho0 (Kd.R_lt (rR HO241.out))) (Kd.R_lt (rR HO247.out))) (kZ HB.out));replace HO241:=mk0 (Kd.R_elder' (rR HO241.out) (Kd.R_base ho0) hb);replace HO247:=mk0 (Kd.R_elder' (rR HO247.out) (Kd.R_base ho0) hb);replace BK238:=mk0 (kK BK238.out hb);replace HB:=mk0 (kS HB.out hb);(try clear hb);(try clear ho0);obtain⟨hcz101_0,hcz101_1,hcz101_2,hfz101_0,hfz101_1,hfz101_2⟩:=cz3 BK238.out)|((with_reducible refine gate_callee (f:=13) rfl ?_);refine goesL_ (some 24) rfl rfl Try.func13 (by kernel_rfl) rfl #[.agg #[.int .i64 a1_0,.int .i64 a1_1,.int .i64 a1_2]] rfl (by (try simp only [mA,mC,mN]);first|done|rfl|(simp only [List.length_drop,List.length_take];done)|(simp only [List.length_drop,List.length_take];rfl)) ?_;(with_reducible refine (laws_toStretch.calls a1_0 a1_1 a1_2 t251 t252 t253 _ A9.out).mono ?_);rintro e w102 ⟨rfl,hb⟩;refine⟨_,rfl,?_⟩;replace HO241:=mk0 (bR HO241.out hb);replace HO247:=mk0 (bR HO247.out hb);replace HO250:=mk0 (bR HO250.out hb);replace BK238:=mk0 (kK BK238.out hb);replace HB:=mk0 (kS HB.out hb);(try clear hb);obtain⟨Ao103,co103,eo103⟩:=Kd.R_slice HO250.out;subst eo103)|((with_reducible refine gate_callee (f:=17) rfl ?_);refine goesL_ (some 25) rfl rfl Try.func17 (by kernel_rfl) rfl #[.slice Ao103 t248.length co103,.agg #[.int .i64 t251,.int .i64 t252,.int .i64 t253]] rfl (by (try simp only [mA,mC,mN]);first|done|rfl|(simp only [List.length_drop,List.length_take];done)|(simp only [List.length_drop,List.length_take];rfl)) ?_;(with_reducible refine (impl_StretchWord.calls k _ _ t248 t251 t252 t253 t254 _ ?side1 ?side2 A10.out).mono ?_);(case side1=>exact kC (Kd.R_reads' HO250.out).2.2);(case side2=>exact (Kd.R_reads' HO250.out).2.1);rintro e w104 ⟨v255,rfl,ho0,hb⟩;refine⟨_,rfl,?_⟩;have HO256:=mk0 (Kd.R_lower (Kd.R_new' (Kd.R_new' (Kd.R_new' ho0 (Kd.R_lt (rR HO241.out))) (Kd.R_lt (rR HO247.out))) (Kd.R_lt (rR HO250.out))) (kZ HB.out));replace HO241:=mk0 (Kd.R_elder' (rR HO241.out) (Kd.R_base ho0) hb);replace HO247:=mk0 (Kd.R_elder' (rR HO247.out) (Kd.R_base ho0) hb);replace HO250:=mk0 (Kd.R_elder' (rR HO250.out) (Kd.R_base ho0) hb);replace BK238:=mk0 (kK BK238.out hb);replace HB:=mk0 (kS HB.out hb);(try clear hb);(try clear ho0);obtain⟨Ao105,co105,eo105⟩:=Kd.R_slice HO256.out;subst eo105;obtain⟨Ao106,co106,eo106⟩:=Kd.R_slice HO247.out;subst eo106)|((with_reducible refine gate_callee (f:=15) rfl ?_);refine goesL_ (some 28) rfl rfl Try.func15 (by kernel_rfl) rfl #[.slice Ao105 t254.length co105,.slice Ao106 t245.length co106] rfl (by (try simp only [mA,mC,mN]);first|done|rfl|(simp only [List.length_drop,List.length_take];done)|(simp only [List.length_drop,List.length_take];rfl)) ?_;(with_reducible refine (laws_eqByteS.calls k _ _ t254 _ _ t245 false _ ?side1 ?side2 ?side3 ?side4 A11.out).mono ?_);(case side1=>exact kC (Kd.R_reads' HO256.out).2.2);(case side2=>exact (Kd.R_reads' HO256.out).2.1);(case side3=>exact kC (Kd.R_reads' HO247.out).2.2);(case side4=>exact (Kd.R_reads' HO247.out).2.1);rintro e w' ⟨rfl,⟨nd,rfl⟩⟩;refine⟨_,rfl,?_⟩))
  go_ret
  exact⟨by first|rfl|(simp [errW_none,errW_some] <;> rfl)|(simp [*,errW_none,errW_some] <;> rfl),kB HB.out⟩

 subst c12
 have H1:((laws_toByteS.f k l0).bind fun t258=>((laws_eqByteS.f k t248 t258).bind fun t261=>(if t261 = true then ((laws_markByteS.f k t248 1).bind fun bt262=>(if bt262.1 < 0 then (laws_FnExactStretchWord.j0 k l0 t245 t254 true a1_0 a1_1 a1_2) else ((laws_eqByteS.f k t254 t245).bind fun t264=>(laws_FnExactStretchWord.j0 k l0 t245 t254 (!t264) a1_0 a1_1 a1_2)))) else (some false)))) = some r:=by rw [if_pos rfl] at H;exact H
 clear H
 have H:=H1
 clear H1
 replace H:=Option.bind_eq_some_iff.mp H
 obtain⟨t258,A130,H⟩:=H
 replace H:((laws_eqByteS.f k t248 t258).bind fun t261=>(if t261 = true then ((laws_markByteS.f k t248 1).bind fun bt262=>(if bt262.1 < 0 then (laws_FnExactStretchWord.j0 k l0 t245 t254 true a1_0 a1_1 a1_2) else ((laws_eqByteS.f k t254 t245).bind fun t264=>(laws_FnExactStretchWord.j0 k l0 t245 t254 (!t264) a1_0 a1_1 a1_2)))) else (some false))) = some r:=H
 have A13:=mk0 A130
 clear A130
 replace H:=Option.bind_eq_some_iff.mp H
 obtain⟨t261,A140,H⟩:=H
 replace H:(if t261 = true then ((laws_markByteS.f k t248 1).bind fun bt262=>(if bt262.1 < 0 then (laws_FnExactStretchWord.j0 k l0 t245 t254 true a1_0 a1_1 a1_2) else ((laws_eqByteS.f k t254 t245).bind fun t264=>(laws_FnExactStretchWord.j0 k l0 t245 t254 (!t264) a1_0 a1_1 a1_2)))) else (some false)) = some r:=H
 have A14:=mk0 A140
 clear A140
 by_cases c15:t261 = true
 rotate_left
 ·replace c15:=Bool.eq_false_iff.mpr c15
  subst c15
  have H1:(some false) = some r:=by rw [if_neg (show ¬ (false = true) by decide)] at H;exact H
  clear H
  have H:=H1
  clear H1
  obtain rfl:=Option.some.inj H
  go_enter Try.func4,Try.ntmps4
  try go_wp2_with (first|((with_reducible refine gate_dst (N:=3) rfl ?_);refine box_event ?hg (N:=3) ?hd (cs:=#[.int .i64 a1_0,.int .i64 a1_1,.int .i64 a1_2]) (t:=24) ?hr ?_;(case hd=>rfl);(case hg=>rfl);(case hr=>first|(go_simp;done)|(go_simp;rfl));intro gb238 hg w79 hbox hb;have BK238:=mk0 (hbox);have GW238:=mk0 ((by rw [hg];exact (kZ HB.out):w.heap.size ≤ gb238));have GE238:=mk0 ((by rw [hg];exact (kZ HB.out):w.heap.size ≤ gb238));replace HB:=mk0 (kS HB.out hb);clear hb hbox hg))
  replace BK238:=mk0 (dB BK238.out)
  replace HB:=mk0 (dZ HB.out)
  refine start_ (n:=6) (S:=fun w'=>w'.cell? ⟨gb238,0,none⟩ = some (.int .i64 a1_0) ∧ w'.cell? ⟨gb238,1,none⟩ = some (.int .i64 a1_1) ∧ w'.cell? ⟨gb238,2,none⟩ = some (.int .i64 a1_2)) (ds:=[]) #[false,false,false,false,false,false] (by kernel_rfl) rfl rfl (ck3 BK238.out) (fun hHeld=>?_)
  generalize w79.drew = w80 at BK238 HB hHeld ⊢
  refine pure_ (i:=0) (N:=some 15) (v:=?_) (a':=?_) #[true,false,false,false,false,false] rfl rfl (by kernel_rfl) (fun _ _ _ h=>h) (Or.inl ⟨by rfl,?_⟩) ?_ ?_
  rotate_left
  ·intro w'
   go_simp
   with_reducible rfl
  rotate_left
  ·simp only [Act.put,sA,sO,sS,i64_w,i32_w]
   rfl
  refine take_ (i:=2) (N:=some 17) (v:=?_) (a':=?_) #[true,false,true,false,false,false] rfl rfl (by kernel_rfl) (fun _ _ _ h=>h) (Or.inl ⟨by rfl,?_⟩) hHeld ?_ ?_
  rotate_left
  ·rintro w' ⟨s0,s1,s2⟩
   go_simp
   with_reducible rfl
  rotate_left
  ·simp only [Act.put,sA,sO,sS,i64_w,i32_w]
   rfl
  refine one_ (i:=1) (N:=some 16) #[true,true,true,false,false,false] rfl rfl (by kernel_rfl) (by decide) (fun K hK=>?_)
  refine goes_ Try.func12 (by kernel_rfl) rfl #[.slice A0 l0.length c0] (by rfl) rfl rfl (by (try simp only [mA,mC,mN]);first|done|rfl|(simp only [List.length_drop,List.length_take];done)|(simp only [List.length_drop,List.length_take];rfl)) ?_
  with_reducible refine (laws_toByteS.calls k _ _ l0 t239 _ ?side1 ?side2 A5.out).mono ?_
  (case side1=>exact kC (Kd.C_below HR0.out HB.out))
  (case side2=>exact HC0.out)
  rintro e w81 ⟨v240,rfl,ho0,hb⟩
  refine⟨_,rfl,?_⟩
  have HO241:=mk0 (Kd.R_lower ho0 (kZ HB.out))
  replace BK238:=mk0 (kK BK238.out hb)
  replace HB:=mk0 (kS HB.out hb)
  (try clear hb)
  (try clear ho0)
  refine hK.out _ _ (ck3 BK238.out) (fun hHeld=>?_)
  clear hK K
  refine norm_ (a':=?_) ?_ ?_
  rotate_left
  ·show Act.put _ (some 16) _ = _
   simp only [Act.put,sA,sO,sS,i64_w,i32_w]
   rfl
  refine one_ (i:=3) (N:=some 18) #[true,true,true,true,false,false] rfl rfl (by kernel_rfl) (by decide) (fun K hK=>?_)
  refine goes_ Try.func13 (by kernel_rfl) rfl #[.agg #[.int .i64 a1_0,.int .i64 a1_1,.int .i64 a1_2]] (by rfl) rfl rfl (by (try simp only [mA,mC,mN]);first|done|rfl|(simp only [List.length_drop,List.length_take];done)|(simp only [List.length_drop,List.length_take];rfl)) ?_
  with_reducible refine (laws_toStretch.calls a1_0 a1_1 a1_2 t242 t243 t244 _ A6.out).mono ?_
  rintro e w82 ⟨rfl,hb⟩
  refine⟨_,rfl,?_⟩
  replace HO241:=mk0 (bR HO241.out hb)
  replace BK238:=mk0 (kK BK238.out hb)
  replace HB:=mk0 (kS HB.out hb)
  (try clear hb)
  obtain⟨Ao83,co83,eo83⟩:=Kd.R_slice HO241.out
  (first|subst eo83|(injection eo83 with f1_ f2_ f3_;have f4_:=f1_.symm;have f5_:=f3_.symm;clear f1_ f2_ f3_;subst f4_;subst f5_))
  refine hK.out _ _ (ck3 BK238.out) (fun hHeld=>?_)
  clear hK K
  refine norm_ (a':=?_) ?_ ?_
  rotate_left
  ·show Act.put _ (some 18) _ = _
   simp only [Act.put,sA,sO,sS,i64_w,i32_w]
   rfl
  refine one_ (i:=4) (N:=some 19) #[true,true,true,true,true,false] rfl rfl (by kernel_rfl) (by decide) (fun K hK=>?_)
  refine goes_ Try.func16 (by kernel_rfl) rfl #[.slice Ao83 t239.length co83,.agg #[.int .i64 t242,.int .i64 t243,.int .i64 t244]] (by rfl) rfl rfl (by (try simp only [mA,mC,mN]);first|done|rfl|(simp only [List.length_drop,List.length_take];done)|(simp only [List.length_drop,List.length_take];rfl)) ?_
  with_reducible refine (spec_StretchWord.calls k _ _ t239 t242 t243 t244 t245 _ ?side1 ?side2 A7.out).mono ?_
  (case side1=>exact kC (Kd.R_reads' HO241.out).2.2)
  (case side2=>exact (Kd.R_reads' HO241.out).2.1)
  rintro e w84 ⟨v246,rfl,ho0,hb⟩
  refine⟨_,rfl,?_⟩
  have HO247:=mk0 (Kd.R_lower (Kd.R_new' ho0 (Kd.R_lt (rR HO241.out))) (kZ HB.out))
  replace HO241:=mk0 (Kd.R_elder' (rR HO241.out) (Kd.R_base ho0) hb)
  replace BK238:=mk0 (kK BK238.out hb)
  replace HB:=mk0 (kS HB.out hb)
  (try clear hb)
  (try clear ho0)
  refine hK.out _ _ (ck3 BK238.out) (fun hHeld=>?_)
  clear hK K
  refine norm_ (a':=?_) ?_ ?_
  rotate_left
  ·show Act.put _ (some 19) _ = _
   simp only [Act.put,sA,sO,sS,i64_w,i32_w]
   rfl
  refine pure_ (i:=5) (N:=some 5) (v:=?_) (a':=?_) #[true,true,true,true,true,true] rfl rfl (by kernel_rfl) (fun _ _ _ h=>h) (Or.inl ⟨by rfl,?_⟩) ?_ ?_
  rotate_left
  ·intro w'
   go_simp
   with_reducible rfl
  rotate_left
  ·simp only [Act.put,sA,sO,sS,i64_w,i32_w]
   rfl
  refine done_ (by kernel_rfl) ?_
  try go_wp2_with (first|((with_reducible refine gate_callee (f:=12) rfl ?_);refine goesL_ (some 21) rfl rfl Try.func12 (by kernel_rfl) rfl #[.slice A0 l0.length c0] rfl (by (try simp only [mA,mC,mN]);first|done|rfl|(simp only [List.length_drop,List.length_take];done)|(simp only [List.length_drop,List.length_take];rfl)) ?_;(with_reducible refine (laws_toByteS.calls k _ _ l0 t248 _ ?side1 ?side2 A8.out).mono ?_);(case side1=>exact kC (Kd.C_below HR0.out HB.out));(case side2=>exact HC0.out);rintro e w85 ⟨v249,rfl,ho0,hb⟩;refine⟨_,rfl,?_⟩;have HO250:=mk0 (Kd.R_lower (Kd.R_new' (Kd.R_new' ho0 (Kd.R_lt (rR HO241.out))) (Kd.R_lt (rR HO247.out))) (kZ HB.out));replace HO241:=mk0 (Kd.R_elder' (rR HO241.out) (Kd.R_base ho0) hb);replace HO247:=mk0 (Kd.R_elder' (rR HO247.out) (Kd.R_base ho0) hb);replace BK238:=mk0 (kK BK238.out hb);replace HB:=mk0 (kS HB.out hb);(try clear hb);(try clear ho0);obtain⟨hcz86_0,hcz86_1,hcz86_2,hfz86_0,hfz86_1,hfz86_2⟩:=cz3 BK238.out)|((with_reducible refine gate_callee (f:=13) rfl ?_);refine goesL_ (some 24) rfl rfl Try.func13 (by kernel_rfl) rfl #[.agg #[.int .i64 a1_0,.int .i64 a1_1,.int .i64 a1_2]] rfl (by (try simp only [mA,mC,mN]);first|done|rfl|(simp only [List.length_drop,List.length_take];done)|(simp only [List.length_drop,List.length_take];rfl)) ?_;(with_reducible refine (laws_toStretch.calls a1_0 a1_1 a1_2 t251 t252 t253 _ A9.out).mono ?_);rintro e w87 ⟨rfl,hb⟩;refine⟨_,rfl,?_⟩;replace HO241:=mk0 (bR HO241.out hb);replace HO247:=mk0 (bR HO247.out hb);replace HO250:=mk0 (bR HO250.out hb);replace BK238:=mk0 (kK BK238.out hb);replace HB:=mk0 (kS HB.out hb);(try clear hb);obtain⟨Ao88,co88,eo88⟩:=Kd.R_slice HO250.out;subst eo88)|((with_reducible refine gate_callee (f:=17) rfl ?_);refine goesL_ (some 25) rfl rfl Try.func17 (by kernel_rfl) rfl #[.slice Ao88 t248.length co88,.agg #[.int .i64 t251,.int .i64 t252,.int .i64 t253]] rfl (by (try simp only [mA,mC,mN]);first|done|rfl|(simp only [List.length_drop,List.length_take];done)|(simp only [List.length_drop,List.length_take];rfl)) ?_;(with_reducible refine (impl_StretchWord.calls k _ _ t248 t251 t252 t253 t254 _ ?side1 ?side2 A10.out).mono ?_);(case side1=>exact kC (Kd.R_reads' HO250.out).2.2);(case side2=>exact (Kd.R_reads' HO250.out).2.1);rintro e w89 ⟨v255,rfl,ho0,hb⟩;refine⟨_,rfl,?_⟩;have HO256:=mk0 (Kd.R_lower (Kd.R_new' (Kd.R_new' (Kd.R_new' ho0 (Kd.R_lt (rR HO241.out))) (Kd.R_lt (rR HO247.out))) (Kd.R_lt (rR HO250.out))) (kZ HB.out));replace HO241:=mk0 (Kd.R_elder' (rR HO241.out) (Kd.R_base ho0) hb);replace HO247:=mk0 (Kd.R_elder' (rR HO247.out) (Kd.R_base ho0) hb);replace HO250:=mk0 (Kd.R_elder' (rR HO250.out) (Kd.R_base ho0) hb);replace BK238:=mk0 (kK BK238.out hb);replace HB:=mk0 (kS HB.out hb);(try clear hb);(try clear ho0);obtain⟨Ao90,co90,eo90⟩:=Kd.R_slice HO256.out;subst eo90;obtain⟨Ao91,co91,eo91⟩:=Kd.R_slice HO247.out;subst eo91)|((with_reducible refine gate_callee (f:=15) rfl ?_);refine goesL_ (some 28) rfl rfl Try.func15 (by kernel_rfl) rfl #[.slice Ao90 t254.length co90,.slice Ao91 t245.length co91] rfl (by (try simp only [mA,mC,mN]);first|done|rfl|(simp only [List.length_drop,List.length_take];done)|(simp only [List.length_drop,List.length_take];rfl)) ?_;(with_reducible refine (laws_eqByteS.calls k _ _ t254 _ _ t245 true _ ?side1 ?side2 ?side3 ?side4 A11.out).mono ?_);(case side1=>exact kC (Kd.R_reads' HO256.out).2.2);(case side2=>exact (Kd.R_reads' HO256.out).2.1);(case side3=>exact kC (Kd.R_reads' HO247.out).2.2);(case side4=>exact (Kd.R_reads' HO247.out).2.1);rintro e w' ⟨rfl,⟨nd,rfl⟩⟩;refine⟨_,rfl,?_⟩)|((with_reducible refine gate_callee (f:=12) rfl ?_);refine goesL_ (some 32) rfl rfl Try.func12 (by kernel_rfl) rfl #[.slice A0 l0.length c0] rfl (by (try simp only [mA,mC,mN]);first|done|rfl|(simp only [List.length_drop,List.length_take];done)|(simp only [List.length_drop,List.length_take];rfl)) ?_;(with_reducible refine (laws_toByteS.calls k _ _ l0 t258 _ ?side1 ?side2 A13.out).mono ?_);(case side1=>repeat (first|exact (Kd.C_below HR0.out (kB HB.out))|(with_reducible first|apply aC|apply nC|apply dC)));(case side2=>exact HC0.out);rintro e w92 ⟨v259,rfl,ho0,hb⟩;refine⟨_,rfl,?_⟩;have HO260:=mk0 (Kd.R_lower (Kd.R_new' (Kd.R_new' (Kd.R_new' (Kd.R_new' ho0 (Kd.R_lt (rR HO241.out))) (Kd.R_lt (rR HO247.out))) (Kd.R_lt (rR HO250.out))) (Kd.R_lt (rR HO256.out))) (kZ HB.out));replace HO241:=mk0 (Kd.R_elder' (rR HO241.out) (Kd.R_base ho0) hb);replace HO247:=mk0 (Kd.R_elder' (rR HO247.out) (Kd.R_base ho0) hb);replace HO250:=mk0 (Kd.R_elder' (rR HO250.out) (Kd.R_base ho0) hb);replace HO256:=mk0 (Kd.R_elder' (rR HO256.out) (Kd.R_base ho0) hb);replace BK238:=mk0 (kK BK238.out hb);replace HB:=mk0 (kS HB.out hb);(try clear hb);(try clear ho0);obtain⟨Ao93,co93,eo93⟩:=Kd.R_slice HO260.out;subst eo93)|((with_reducible refine gate_callee (f:=15) rfl ?_);refine goesL_ (some 33) rfl rfl Try.func15 (by kernel_rfl) rfl #[.slice Ao88 t248.length co88,.slice Ao93 t258.length co93] rfl (by (try simp only [mA,mC,mN]);first|done|rfl|(simp only [List.length_drop,List.length_take];done)|(simp only [List.length_drop,List.length_take];rfl)) ?_;(with_reducible refine (laws_eqByteS.calls k _ _ t248 _ _ t258 false _ ?side1 ?side2 ?side3 ?side4 A14.out).mono ?_);(case side1=>exact kC (Kd.R_reads' HO250.out).2.2);(case side2=>exact (Kd.R_reads' HO250.out).2.1);(case side3=>exact kC (Kd.R_reads' HO260.out).2.2);(case side4=>exact (Kd.R_reads' HO260.out).2.1);rintro e w' ⟨rfl,⟨nd,rfl⟩⟩;refine⟨_,rfl,?_⟩))
  go_ret
  exact⟨by first|rfl|(simp [errW_none,errW_some] <;> rfl)|(simp [*,errW_none,errW_some] <;> rfl),kB HB.out⟩
 subst c15
 have H1:((laws_markByteS.f k t248 1).bind fun bt262=>(if bt262.1 < 0 then (laws_FnExactStretchWord.j0 k l0 t245 t254 true a1_0 a1_1 a1_2) else ((laws_eqByteS.f k t254 t245).bind fun t264=>(laws_FnExactStretchWord.j0 k l0 t245 t254 (!t264) a1_0 a1_1 a1_2)))) = some r:=by rw [if_pos rfl] at H;exact H
 clear H
 have H:=H1
 clear H1
 replace H:=Option.bind_eq_some_iff.mp H
 obtain⟨⟨t262,t263⟩,A160,H⟩:=H
 replace H:(if t262 < 0 then (laws_FnExactStretchWord.j0 k l0 t245 t254 true a1_0 a1_1 a1_2) else ((laws_eqByteS.f k t254 t245).bind fun t264=>(laws_FnExactStretchWord.j0 k l0 t245 t254 (!t264) a1_0 a1_1 a1_2))) = some r:=H
 have A16:=mk0 A160
 clear A160
 have HC17:=mk0 H
 clear H
 go_enter Try.func4,Try.ntmps4
 try go_wp2_with (first|((with_reducible refine gate_dst (N:=3) rfl ?_);refine box_event ?hg (N:=3) ?hd (cs:=#[.int .i64 a1_0,.int .i64 a1_1,.int .i64 a1_2]) (t:=24) ?hr ?_;(case hd=>rfl);(case hg=>rfl);(case hr=>first|(go_simp;done)|(go_simp;rfl));intro gb238 hg w18 hbox hb;have BK238:=mk0 (hbox);have GW238:=mk0 ((by rw [hg];exact (kZ HB.out):w.heap.size ≤ gb238));have GE238:=mk0 ((by rw [hg];exact (kZ HB.out):w.heap.size ≤ gb238));replace HB:=mk0 (kS HB.out hb);clear hb hbox hg))
 replace BK238:=mk0 (dB BK238.out)
 replace HB:=mk0 (dZ HB.out)
 refine start_ (n:=6) (S:=fun w'=>w'.cell? ⟨gb238,0,none⟩ = some (.int .i64 a1_0) ∧ w'.cell? ⟨gb238,1,none⟩ = some (.int .i64 a1_1) ∧ w'.cell? ⟨gb238,2,none⟩ = some (.int .i64 a1_2)) (ds:=[]) #[false,false,false,false,false,false] (by kernel_rfl) rfl rfl (ck3 BK238.out) (fun hHeld=>?_)
 generalize w18.drew = w19 at BK238 HB hHeld ⊢
 refine pure_ (i:=0) (N:=some 15) (v:=?_) (a':=?_) #[true,false,false,false,false,false] rfl rfl (by kernel_rfl) (fun _ _ _ h=>h) (Or.inl ⟨by rfl,?_⟩) ?_ ?_
 rotate_left
 ·intro w'
  go_simp
  with_reducible rfl
 rotate_left
 ·simp only [Act.put,sA,sO,sS,i64_w,i32_w]
  rfl
 refine take_ (i:=2) (N:=some 17) (v:=?_) (a':=?_) #[true,false,true,false,false,false] rfl rfl (by kernel_rfl) (fun _ _ _ h=>h) (Or.inl ⟨by rfl,?_⟩) hHeld ?_ ?_
 rotate_left
 ·rintro w' ⟨s0,s1,s2⟩
  go_simp
  with_reducible rfl
 rotate_left
 ·simp only [Act.put,sA,sO,sS,i64_w,i32_w]
  rfl
 refine one_ (i:=1) (N:=some 16) #[true,true,true,false,false,false] rfl rfl (by kernel_rfl) (by decide) (fun K hK=>?_)
 refine goes_ Try.func12 (by kernel_rfl) rfl #[.slice A0 l0.length c0] (by rfl) rfl rfl (by (try simp only [mA,mC,mN]);first|done|rfl|(simp only [List.length_drop,List.length_take];done)|(simp only [List.length_drop,List.length_take];rfl)) ?_
 with_reducible refine (laws_toByteS.calls k _ _ l0 t239 _ ?side1 ?side2 A5.out).mono ?_
 (case side1=>exact kC (Kd.C_below HR0.out HB.out))
 (case side2=>exact HC0.out)
 rintro e w20 ⟨v240,rfl,ho0,hb⟩
 refine⟨_,rfl,?_⟩
 have HO241:=mk0 (Kd.R_lower ho0 (kZ HB.out))
 replace BK238:=mk0 (kK BK238.out hb)
 replace HB:=mk0 (kS HB.out hb)
 (try clear hb)
 (try clear ho0)
 refine hK.out _ _ (ck3 BK238.out) (fun hHeld=>?_)
 clear hK K
 refine norm_ (a':=?_) ?_ ?_
 rotate_left
 ·show Act.put _ (some 16) _ = _
  simp only [Act.put,sA,sO,sS,i64_w,i32_w]
  rfl
 refine one_ (i:=3) (N:=some 18) #[true,true,true,true,false,false] rfl rfl (by kernel_rfl) (by decide) (fun K hK=>?_)
 refine goes_ Try.func13 (by kernel_rfl) rfl #[.agg #[.int .i64 a1_0,.int .i64 a1_1,.int .i64 a1_2]] (by rfl) rfl rfl (by (try simp only [mA,mC,mN]);first|done|rfl|(simp only [List.length_drop,List.length_take];done)|(simp only [List.length_drop,List.length_take];rfl)) ?_
 with_reducible refine (laws_toStretch.calls a1_0 a1_1 a1_2 t242 t243 t244 _ A6.out).mono ?_
 rintro e w21 ⟨rfl,hb⟩
 refine⟨_,rfl,?_⟩
 replace HO241:=mk0 (bR HO241.out hb)
 replace BK238:=mk0 (kK BK238.out hb)
 replace HB:=mk0 (kS HB.out hb)
 (try clear hb)
 obtain⟨Ao22,co22,eo22⟩:=Kd.R_slice HO241.out
 (first|subst eo22|(injection eo22 with f1_ f2_ f3_;have f4_:=f1_.symm;have f5_:=f3_.symm;clear f1_ f2_ f3_;subst f4_;subst f5_))
 refine hK.out _ _ (ck3 BK238.out) (fun hHeld=>?_)
 clear hK K
 refine norm_ (a':=?_) ?_ ?_
 rotate_left
 ·show Act.put _ (some 18) _ = _
  simp only [Act.put,sA,sO,sS,i64_w,i32_w]
  rfl
 refine one_ (i:=4) (N:=some 19) #[true,true,true,true,true,false] rfl rfl (by kernel_rfl) (by decide) (fun K hK=>?_)
 refine goes_ Try.func16 (by kernel_rfl) rfl #[.slice Ao22 t239.length co22,.agg #[.int .i64 t242,.int .i64 t243,.int .i64 t244]] (by rfl) rfl rfl (by (try simp only [mA,mC,mN]);first|done|rfl|(simp only [List.length_drop,List.length_take];done)|(simp only [List.length_drop,List.length_take];rfl)) ?_
 with_reducible refine (spec_StretchWord.calls k _ _ t239 t242 t243 t244 t245 _ ?side1 ?side2 A7.out).mono ?_
 (case side1=>exact kC (Kd.R_reads' HO241.out).2.2)
 (case side2=>exact (Kd.R_reads' HO241.out).2.1)
 rintro e w23 ⟨v246,rfl,ho0,hb⟩
 refine⟨_,rfl,?_⟩
 have HO247:=mk0 (Kd.R_lower (Kd.R_new' ho0 (Kd.R_lt (rR HO241.out))) (kZ HB.out))
 replace HO241:=mk0 (Kd.R_elder' (rR HO241.out) (Kd.R_base ho0) hb)
 replace BK238:=mk0 (kK BK238.out hb)
 replace HB:=mk0 (kS HB.out hb)
 (try clear hb)
 (try clear ho0)
 refine hK.out _ _ (ck3 BK238.out) (fun hHeld=>?_)
 clear hK K
 refine norm_ (a':=?_) ?_ ?_
 rotate_left
 ·show Act.put _ (some 19) _ = _
  simp only [Act.put,sA,sO,sS,i64_w,i32_w]
  rfl
 refine pure_ (i:=5) (N:=some 5) (v:=?_) (a':=?_) #[true,true,true,true,true,true] rfl rfl (by kernel_rfl) (fun _ _ _ h=>h) (Or.inl ⟨by rfl,?_⟩) ?_ ?_
 rotate_left
 ·intro w'
  go_simp
  with_reducible rfl
 rotate_left
 ·simp only [Act.put,sA,sO,sS,i64_w,i32_w]
  rfl
 refine done_ (by kernel_rfl) ?_
 go_upto_region 12 with (first|((with_reducible refine gate_callee (f:=12) rfl ?_);refine goesL_ (some 21) rfl rfl Try.func12 (by kernel_rfl) rfl #[.slice A0 l0.length c0] rfl (by (try simp only [mA,mC,mN]);first|done|rfl|(simp only [List.length_drop,List.length_take];done)|(simp only [List.length_drop,List.length_take];rfl)) ?_;(with_reducible refine (laws_toByteS.calls k _ _ l0 t248 _ ?side1 ?side2 A8.out).mono ?_);(case side1=>exact kC (Kd.C_below HR0.out HB.out));(case side2=>exact HC0.out);rintro e w24 ⟨v249,rfl,ho0,hb⟩;refine⟨_,rfl,?_⟩;have HO250:=mk0 (Kd.R_lower (Kd.R_new' (Kd.R_new' ho0 (Kd.R_lt (rR HO241.out))) (Kd.R_lt (rR HO247.out))) (kZ HB.out));replace HO241:=mk0 (Kd.R_elder' (rR HO241.out) (Kd.R_base ho0) hb);replace HO247:=mk0 (Kd.R_elder' (rR HO247.out) (Kd.R_base ho0) hb);replace BK238:=mk0 (kK BK238.out hb);replace HB:=mk0 (kS HB.out hb);(try clear hb);(try clear ho0);obtain⟨hcz25_0,hcz25_1,hcz25_2,hfz25_0,hfz25_1,hfz25_2⟩:=cz3 BK238.out)|((with_reducible refine gate_callee (f:=13) rfl ?_);refine goesL_ (some 24) rfl rfl Try.func13 (by kernel_rfl) rfl #[.agg #[.int .i64 a1_0,.int .i64 a1_1,.int .i64 a1_2]] rfl (by (try simp only [mA,mC,mN]);first|done|rfl|(simp only [List.length_drop,List.length_take];done)|(simp only [List.length_drop,List.length_take];rfl)) ?_;(with_reducible refine (laws_toStretch.calls a1_0 a1_1 a1_2 t251 t252 t253 _ A9.out).mono ?_);rintro e w26 ⟨rfl,hb⟩;refine⟨_,rfl,?_⟩;replace HO241:=mk0 (bR HO241.out hb);replace HO247:=mk0 (bR HO247.out hb);replace HO250:=mk0 (bR HO250.out hb);replace BK238:=mk0 (kK BK238.out hb);replace HB:=mk0 (kS HB.out hb);(try clear hb);obtain⟨Ao27,co27,eo27⟩:=Kd.R_slice HO250.out;subst eo27)|((with_reducible refine gate_callee (f:=17) rfl ?_);refine goesL_ (some 25) rfl rfl Try.func17 (by kernel_rfl) rfl #[.slice Ao27 t248.length co27,.agg #[.int .i64 t251,.int .i64 t252,.int .i64 t253]] rfl (by (try simp only [mA,mC,mN]);first|done|rfl|(simp only [List.length_drop,List.length_take];done)|(simp only [List.length_drop,List.length_take];rfl)) ?_;(with_reducible refine (impl_StretchWord.calls k _ _ t248 t251 t252 t253 t254 _ ?side1 ?side2 A10.out).mono ?_);(case side1=>exact kC (Kd.R_reads' HO250.out).2.2);(case side2=>exact (Kd.R_reads' HO250.out).2.1);rintro e w28 ⟨v255,rfl,ho0,hb⟩;refine⟨_,rfl,?_⟩;have HO256:=mk0 (Kd.R_lower (Kd.R_new' (Kd.R_new' (Kd.R_new' ho0 (Kd.R_lt (rR HO241.out))) (Kd.R_lt (rR HO247.out))) (Kd.R_lt (rR HO250.out))) (kZ HB.out));replace HO241:=mk0 (Kd.R_elder' (rR HO241.out) (Kd.R_base ho0) hb);replace HO247:=mk0 (Kd.R_elder' (rR HO247.out) (Kd.R_base ho0) hb);replace HO250:=mk0 (Kd.R_elder' (rR HO250.out) (Kd.R_base ho0) hb);replace BK238:=mk0 (kK BK238.out hb);replace HB:=mk0 (kS HB.out hb);(try clear hb);(try clear ho0);obtain⟨Ao29,co29,eo29⟩:=Kd.R_slice HO256.out;subst eo29;obtain⟨Ao30,co30,eo30⟩:=Kd.R_slice HO247.out;subst eo30)|((with_reducible refine gate_callee (f:=15) rfl ?_);refine goesL_ (some 28) rfl rfl Try.func15 (by kernel_rfl) rfl #[.slice Ao29 t254.length co29,.slice Ao30 t245.length co30] rfl (by (try simp only [mA,mC,mN]);first|done|rfl|(simp only [List.length_drop,List.length_take];done)|(simp only [List.length_drop,List.length_take];rfl)) ?_;(with_reducible refine (laws_eqByteS.calls k _ _ t254 _ _ t245 true _ ?side1 ?side2 ?side3 ?side4 A11.out).mono ?_);(case side1=>exact kC (Kd.R_reads' HO256.out).2.2);(case side2=>exact (Kd.R_reads' HO256.out).2.1);(case side3=>exact kC (Kd.R_reads' HO247.out).2.2);(case side4=>exact (Kd.R_reads' HO247.out).2.1);rintro e w' ⟨rfl,⟨nd,rfl⟩⟩;refine⟨_,rfl,?_⟩)|((with_reducible refine gate_callee (f:=12) rfl ?_);refine goesL_ (some 32) rfl rfl Try.func12 (by kernel_rfl) rfl #[.slice A0 l0.length c0] rfl (by (try simp only [mA,mC,mN]);first|done|rfl|(simp only [List.length_drop,List.length_take];done)|(simp only [List.length_drop,List.length_take];rfl)) ?_;(with_reducible refine (laws_toByteS.calls k _ _ l0 t258 _ ?side1 ?side2 A13.out).mono ?_);(case side1=>repeat (first|exact (Kd.C_below HR0.out (kB HB.out))|(with_reducible first|apply aC|apply nC|apply dC)));(case side2=>exact HC0.out);rintro e w31 ⟨v259,rfl,ho0,hb⟩;refine⟨_,rfl,?_⟩;have HO260:=mk0 (Kd.R_lower (Kd.R_new' (Kd.R_new' (Kd.R_new' (Kd.R_new' ho0 (Kd.R_lt (rR HO241.out))) (Kd.R_lt (rR HO247.out))) (Kd.R_lt (rR HO250.out))) (Kd.R_lt (rR HO256.out))) (kZ HB.out));replace HO241:=mk0 (Kd.R_elder' (rR HO241.out) (Kd.R_base ho0) hb);replace HO247:=mk0 (Kd.R_elder' (rR HO247.out) (Kd.R_base ho0) hb);replace HO250:=mk0 (Kd.R_elder' (rR HO250.out) (Kd.R_base ho0) hb);replace HO256:=mk0 (Kd.R_elder' (rR HO256.out) (Kd.R_base ho0) hb);replace BK238:=mk0 (kK BK238.out hb);replace HB:=mk0 (kS HB.out hb);(try clear hb);(try clear ho0);obtain⟨Ao32,co32,eo32⟩:=Kd.R_slice HO260.out;subst eo32)|((with_reducible refine gate_callee (f:=15) rfl ?_);refine goesL_ (some 33) rfl rfl Try.func15 (by kernel_rfl) rfl #[.slice Ao27 t248.length co27,.slice Ao32 t258.length co32] rfl (by (try simp only [mA,mC,mN]);first|done|rfl|(simp only [List.length_drop,List.length_take];done)|(simp only [List.length_drop,List.length_take];rfl)) ?_;(with_reducible refine (laws_eqByteS.calls k _ _ t248 _ _ t258 true _ ?side1 ?side2 ?side3 ?side4 A14.out).mono ?_);(case side1=>exact kC (Kd.R_reads' HO250.out).2.2);(case side2=>exact (Kd.R_reads' HO250.out).2.1);(case side3=>exact kC (Kd.R_reads' HO260.out).2.2);(case side4=>exact (Kd.R_reads' HO260.out).2.1);rintro e w' ⟨rfl,⟨nd,rfl⟩⟩;refine⟨_,rfl,?_⟩)|((with_reducible refine gate_callee (f:=18) rfl ?_);refine goesL_ (some 37) rfl rfl Try.func18 (by kernel_rfl) rfl #[.slice Ao27 t248.length co27,.int .i64 1] rfl (by (try simp only [mA,mC,mN]);first|done|rfl|(simp only [List.length_drop,List.length_take];done)|(simp only [List.length_drop,List.length_take];rfl)) ?_;(with_reducible refine (laws_markByteS.calls k (fun k_=>some k_ = (.slice Ao27 t248.length co27:Value).ownBlock) (.slice Ao27 t248.length co27) t248 1 t262 t263 w _ ?side1 ?side2 A16.out).mono ?_);(case side1=>repeat (first|(with_reducible first|exact HB.out|apply aZ|apply nZ|apply dZ|refine sZ ?_ GE238.out)|exact HB.out));(case side2=>exact Kd.R_tight rfl HO250.out);rintro e w33 ⟨rfl,hy0,hb,hkp⟩;refine⟨_,rfl,?_⟩;replace BK238:=mk0 (blk_kept (kN BK238.out) hkp (fun hs_=>(fun e_=>(Kd.R_ne HO250.out BK238.out (by decide)) e_) hs_));replace HO241:=mk0 (Kd.R_mono (ok':=fun k_=>some k_ ≠ (.slice Ao30 t245.length co30:Value).ownBlock ∧ some k_ ≠ (.slice Ao27 t248.length co27:Value).ownBlock ∧ some k_ ≠ (.slice Ao29 t254.length co29:Value).ownBlock ∧ some k_ ≠ (.slice Ao32 t258.length co32:Value).ownBlock) (Kd.R_keptB (HO241.out) hkp (fun k_ hk_ hs_=>(hk_.1.1.2) hs_)) (fun k_ hk_=>⟨hk_.1.1.1.1.2,hk_.1.1.1.2,hk_.1.1.2,hk_.1.2⟩));replace HO247:=mk0 (Kd.R_mono (ok':=fun k_=>some k_ ≠ (.slice Ao22 t239.length co22:Value).ownBlock ∧ some k_ ≠ (.slice Ao27 t248.length co27:Value).ownBlock ∧ some k_ ≠ (.slice Ao29 t254.length co29:Value).ownBlock ∧ some k_ ≠ (.slice Ao32 t258.length co32:Value).ownBlock) (Kd.R_keptB (HO247.out) hkp (fun k_ hk_ hs_=>(hk_.1.1.2) hs_)) (fun k_ hk_=>⟨hk_.1.1.1.1.2,hk_.1.1.1.2,hk_.1.1.2,hk_.1.2⟩));replace HO250:=mk0 (Kd.R_reok rfl hy0 (fun k_ e_=>HO250.out.1 k_ e_));replace HO256:=mk0 (Kd.R_mono (ok':=fun k_=>some k_ ≠ (.slice Ao22 t239.length co22:Value).ownBlock ∧ some k_ ≠ (.slice Ao30 t245.length co30:Value).ownBlock ∧ some k_ ≠ (.slice Ao27 t248.length co27:Value).ownBlock ∧ some k_ ≠ (.slice Ao32 t258.length co32:Value).ownBlock) (Kd.R_keptB (HO256.out) hkp (fun k_ hk_ hs_=>(hk_.1.2) hs_)) (fun k_ hk_=>⟨hk_.1.1.1.1.2,hk_.1.1.1.2,hk_.1.1.2,hk_.1.2⟩));replace HO260:=mk0 (Kd.R_mono (ok':=fun k_=>some k_ ≠ (.slice Ao22 t239.length co22:Value).ownBlock ∧ some k_ ≠ (.slice Ao30 t245.length co30:Value).ownBlock ∧ some k_ ≠ (.slice Ao27 t248.length co27:Value).ownBlock ∧ some k_ ≠ (.slice Ao29 t254.length co29:Value).ownBlock) (Kd.R_keptB (HO260.out) hkp (fun k_ hk_ hs_=>(hk_.1.2) hs_)) (fun k_ hk_=>⟨hk_.1.1.1.1.2,hk_.1.1.1.2,hk_.1.1.2,hk_.1.2⟩));replace HB:=mk0 (hb);(try clear hb);(try clear hkp);(try clear hy0)))
 (try simp only [Act.put,sA,sO,sS])
 go_cut [45] (fun v45 wc=>∃ (kq:Nat) (x45_16:Bool),v45 = .bool x45_16 ∧ Aside0 (laws_FnExactStretchWord.j0 kq l0 t245 t254 x45_16 a1_0 a1_1 a1_2 = some r) ∧ Aside0 (kq ≤ k) ∧ Aside0 (Kd.R (Kd.int .u8) 5 wc w.heap.size (fun k_=>some k_ ≠ ((.slice Ao29 t254.length co29):Value).ownBlock) (.slice Ao30 t245.length co30) t245) ∧ Aside0 (Kd.R (Kd.int .u8) 5 wc w.heap.size (fun k_=>some k_ ≠ ((.slice Ao30 t245.length co30):Value).ownBlock) (.slice Ao29 t254.length co29) t254) ∧ Aside0 (wc.heap[gb238]? = some (.cells #[.int .i64 a1_0,.int .i64 a1_1,.int .i64 a1_2] 24 (0,0))) ∧ Aside0 (Below w.heap.size w wc))
 case first =>
  have H:=HC17.out
  clear HC17
  by_cases c34:t262 < 0
  ·rw [if_pos c34] at H
   have c34b0:decide (t262 < 0) = true:=decide_eq_true c34
   clear c34
   (first|rw [c34b0]|(simp only [i64_w,i32_w];rw [c34b0])|skip)
   have H':=mk0 H
   clear H
   go_wp2
   go_meet
   case rel=>exact⟨_,(true),(by first|rfl|(simp;done)|(simp [*];done)),H',⟨by first|omega|exact Nat.le_refl _⟩,⟨rR (Kd.R_mono HO247.out (fun _ hk=>hk.2.2.1))⟩,⟨rR (Kd.R_mono HO256.out (fun _ hk=>hk.2.1))⟩,⟨kN BK238.out⟩,⟨kB HB.out⟩⟩
  rw [if_neg c34] at H
  have c34b0:decide (t262 < 0) = false:=decide_eq_false c34
  clear c34
  (first|rw [c34b0]|(simp only [i64_w,i32_w];rw [c34b0])|skip)
  replace H:=Option.bind_eq_some_iff.mp H
  obtain⟨t264,A350,H⟩:=H
  replace H:(laws_FnExactStretchWord.j0 k l0 t245 t254 (!t264) a1_0 a1_1 a1_2) = some r:=H
  have A35:=mk0 A350
  clear A350
  have H':=mk0 H
  clear H
  go_wp2_with (first|(go_at_call 15;(with_reducible refine (laws_eqByteS.calls k _ _ t254 _ _ t245 t264 _ ?side1 ?side2 ?side3 ?side4 A35.out).mono ?_);(case side1=>exact kC (Kd.R_reads' HO256.out).2.2);(case side2=>exact (Kd.R_reads' HO256.out).2.1);(case side3=>exact kC (Kd.R_reads' HO247.out).2.2);(case side4=>exact (Kd.R_reads' HO247.out).2.1);rintro e w' ⟨rfl,⟨nd,rfl⟩⟩))
  go_meet
  case rel=>exact⟨_,(!t264),(by first|rfl|(simp;done)|(simp [*];done)),H',⟨by first|omega|exact Nat.le_refl _⟩,⟨rR (Kd.R_mono HO247.out (fun _ hk=>hk.2.2.1))⟩,⟨rR (Kd.R_mono HO256.out (fun _ hk=>hk.2.1))⟩,⟨kN BK238.out⟩,⟨kB HB.out⟩⟩
 case rest =>
  clear HC17
  try clear c1
  try clear p2
  try clear c3
  try clear c3b0
  try clear c3b1
  try clear c4
  try clear c12
  try clear c13
  try clear c15
  try clear c16
  try clear c17
  try clear c18
  try clear c34
  try clear c34b0
  try clear hcz25_0
  try clear hcz25_1
  try clear hcz25_2
  try clear hfz25_0
  try clear hfz25_1
  try clear hfz25_2
  obtain⟨kq,x45_16,rfl,HA,HJ16,HO_5,HO_7,BK238,HB⟩:=hcut
  cases kq with
  | zero=>exact absurd HA.out (by simp [laws_FnExactStretchWord.j0])
  | succ kj16 =>
   have H:=HA.out
   clear HA
   simp only [laws_FnExactStretchWord.j0] at H
   by_cases c36:x45_16 = true
   ·subst c36
    have H1:(some false) = some r:=by rw [if_pos rfl] at H;exact H
    clear H
    have H:=H1
    clear H1
    obtain rfl:=Option.some.inj H
    go_wp2
    go_ret
    exact⟨by first|rfl|(simp [errW_none,errW_some] <;> rfl)|(simp [*,errW_none,errW_some] <;> rfl),kB HB.out⟩
   replace c36:=Bool.eq_false_iff.mpr c36
   subst c36
   have H1:((laws_markByteS.f kj16 t254 1).bind fun bt265=>((laws_heldByteS.f kj16 bt265.2 1).bind fun t267=>(if t267 < 0 then (some false) else (if t267 = bt265.1 then ((laws_toByteS.f kj16 l0).bind fun t268=>((laws_toStretch.f a1_0 a1_1 a1_2).bind fun bt271=>((impl_StretchWord.f kj16 t268 bt271.1 bt271.2.1 bt271.2.2).bind fun t274=>((laws_eqByteS.f kj16 t274 t245).bind fun t277=>(if t277 = true then ((laws_heldByteS.f kj16 bt265.2 1).bind fun t278=>(if t278 < 0 then (some false) else (if t278 = bt265.1 then (some true) else (some false)))) else (some false)))))) else (some false))))) = some r:=by rw [if_neg (show ¬ (false = true) by decide)] at H;exact H
   clear H
   have H:=H1
   clear H1
   replace H:=Option.bind_eq_some_iff.mp H
   obtain⟨⟨t265,t266⟩,A370,H⟩:=H
   replace H:((laws_heldByteS.f kj16 t266 1).bind fun t267=>(if t267 < 0 then (some false) else (if t267 = t265 then ((laws_toByteS.f kj16 l0).bind fun t268=>((laws_toStretch.f a1_0 a1_1 a1_2).bind fun bt271=>((impl_StretchWord.f kj16 t268 bt271.1 bt271.2.1 bt271.2.2).bind fun t274=>((laws_eqByteS.f kj16 t274 t245).bind fun t277=>(if t277 = true then ((laws_heldByteS.f kj16 t266 1).bind fun t278=>(if t278 < 0 then (some false) else (if t278 = t265 then (some true) else (some false)))) else (some false)))))) else (some false)))) = some r:=H
   have A37:=mk0 A370
   clear A370
   replace H:=Option.bind_eq_some_iff.mp H
   obtain⟨t267,A380,H⟩:=H
   replace H:(if t267 < 0 then (some false) else (if t267 = t265 then ((laws_toByteS.f kj16 l0).bind fun t268=>((laws_toStretch.f a1_0 a1_1 a1_2).bind fun bt271=>((impl_StretchWord.f kj16 t268 bt271.1 bt271.2.1 bt271.2.2).bind fun t274=>((laws_eqByteS.f kj16 t274 t245).bind fun t277=>(if t277 = true then ((laws_heldByteS.f kj16 t266 1).bind fun t278=>(if t278 < 0 then (some false) else (if t278 = t265 then (some true) else (some false)))) else (some false)))))) else (some false))) = some r:=H
   have A38:=mk0 A380
   clear A380
   by_cases c39:t267 < 0
   ·rw [if_pos c39] at H
    have c39b0:decide (t267 < 0) = true:=decide_eq_true c39
    clear c39
    obtain rfl:=Option.some.inj H
    go_wp2_with (first|((with_reducible refine gate_callee (f:=18) rfl ?_);refine goesL_ (some 48) rfl rfl Try.func18 (by kernel_rfl) rfl #[.slice Ao29 t254.length co29,.int .i64 1] rfl (by (try simp only [mA,mC,mN]);first|done|rfl|(simp only [List.length_drop,List.length_take];done)|(simp only [List.length_drop,List.length_take];rfl)) ?_;(with_reducible refine (laws_markByteS.calls kj16 (fun k_=>some k_ = (.slice Ao29 t254.length co29:Value).ownBlock) (.slice Ao29 t254.length co29) t254 1 t265 t266 w _ ?side1 ?side2 A37.out).mono ?_);(case side1=>repeat (first|(with_reducible first|exact HB.out|apply aZ|apply nZ|apply dZ|refine sZ ?_ GE238.out)|exact HB.out));(case side2=>exact Kd.R_tight rfl HO_7.out);rintro e w40 ⟨rfl,hy0,hb,hkp⟩;refine⟨_,rfl,?_⟩;replace HO_5:=mk0 (Kd.R_mono (ok':=fun k_=>some k_ ≠ (.slice Ao29 t254.length co29:Value).ownBlock) (Kd.R_keptB (HO_5.out) hkp (fun k_ hk_ hs_=>(hk_) hs_)) (fun k_ hk_=>hk_.1));replace BK238:=mk0 (blk_kept (kN BK238.out) hkp (fun hs_=>(fun e_=>(Kd.R_ne HO_7.out BK238.out (by decide)) e_) hs_));replace HO_7:=mk0 (Kd.R_reok rfl hy0 (fun k_ e_=>HO_7.out.1 k_ e_));replace HB:=mk0 (hb);(try clear hb);(try clear hkp);(try clear hy0))|((with_reducible refine gate_callee (f:=19) rfl ?_);refine goesL_ (some 51) rfl rfl Try.func19 (by kernel_rfl) rfl #[.slice Ao29 t266.length co29,.int .i64 1] rfl (by (try simp only [mA,mC,mN]);first|done|(rw [show t266.length = t254.length from (Kd.R_reads' HO_7.out).1.symm] <;> rfl)|rfl|(simp only [List.length_drop,List.length_take];done)|(simp only [List.length_drop,List.length_take];rfl)) ?_;(with_reducible refine (laws_heldByteS.calls kj16 _ _ t266 1 t267 _ ?side1 ?side2 A38.out).mono ?_);(case side1=>exact kC (Kd.R_reads' HO_7.out).2.2);(case side2=>rw [show t266.length = t254.length from (Kd.R_reads' HO_7.out).1.symm];exact (Kd.R_reads' HO_7.out).2.1);rintro e w' ⟨rfl,⟨nd,rfl⟩⟩;refine⟨_,rfl,?_⟩))
    go_ret
    exact⟨by first|rfl|(simp [errW_none,errW_some] <;> rfl)|(simp [*,errW_none,errW_some] <;> rfl),kB HB.out⟩
   rw [if_neg c39] at H
   have c39b0:decide (t267 < 0) = false:=decide_eq_false c39
   clear c39
   by_cases c41:t267 = t265
   rotate_left
   ·rw [if_neg c41] at H
    have c41b0:(t267 == t265) = false:=beq_eq_false_iff_ne.mpr c41
    have c41b1:(t267 != t265) = true:=bne_iff_ne.mpr c41
    obtain rfl:=Option.some.inj H
    go_wp2_with (first|((with_reducible refine gate_callee (f:=18) rfl ?_);refine goesL_ (some 48) rfl rfl Try.func18 (by kernel_rfl) rfl #[.slice Ao29 t254.length co29,.int .i64 1] rfl (by (try simp only [mA,mC,mN]);first|done|rfl|(simp only [List.length_drop,List.length_take];done)|(simp only [List.length_drop,List.length_take];rfl)) ?_;(with_reducible refine (laws_markByteS.calls kj16 (fun k_=>some k_ = (.slice Ao29 t254.length co29:Value).ownBlock) (.slice Ao29 t254.length co29) t254 1 t265 t266 w _ ?side1 ?side2 A37.out).mono ?_);(case side1=>repeat (first|(with_reducible first|exact HB.out|apply aZ|apply nZ|apply dZ|refine sZ ?_ GE238.out)|exact HB.out));(case side2=>exact Kd.R_tight rfl HO_7.out);rintro e w78 ⟨rfl,hy0,hb,hkp⟩;refine⟨_,rfl,?_⟩;replace HO_5:=mk0 (Kd.R_mono (ok':=fun k_=>some k_ ≠ (.slice Ao29 t254.length co29:Value).ownBlock) (Kd.R_keptB (HO_5.out) hkp (fun k_ hk_ hs_=>(hk_) hs_)) (fun k_ hk_=>hk_.1));replace BK238:=mk0 (blk_kept (kN BK238.out) hkp (fun hs_=>(fun e_=>(Kd.R_ne HO_7.out BK238.out (by decide)) e_) hs_));replace HO_7:=mk0 (Kd.R_reok rfl hy0 (fun k_ e_=>HO_7.out.1 k_ e_));replace HB:=mk0 (hb);(try clear hb);(try clear hkp);(try clear hy0))|((with_reducible refine gate_callee (f:=19) rfl ?_);refine goesL_ (some 51) rfl rfl Try.func19 (by kernel_rfl) rfl #[.slice Ao29 t266.length co29,.int .i64 1] rfl (by (try simp only [mA,mC,mN]);first|done|(rw [show t266.length = t254.length from (Kd.R_reads' HO_7.out).1.symm] <;> rfl)|rfl|(simp only [List.length_drop,List.length_take];done)|(simp only [List.length_drop,List.length_take];rfl)) ?_;(with_reducible refine (laws_heldByteS.calls kj16 _ _ t266 1 t267 _ ?side1 ?side2 A38.out).mono ?_);(case side1=>exact kC (Kd.R_reads' HO_7.out).2.2);(case side2=>rw [show t266.length = t254.length from (Kd.R_reads' HO_7.out).1.symm];exact (Kd.R_reads' HO_7.out).2.1);rintro e w' ⟨rfl,⟨nd,rfl⟩⟩;refine⟨_,rfl,?_⟩))
    go_ret
    exact⟨by first|rfl|(simp [errW_none,errW_some] <;> rfl)|(simp [*,errW_none,errW_some] <;> rfl),kB HB.out⟩
   rw [if_pos c41] at H
   have c41b0:(t267 == t265) = true:=beq_iff_eq.mpr c41
   have c41b1:(t267 != t265) = false:=bne_eq_false_iff_eq.mpr c41
   clear c41
   replace H:=Option.bind_eq_some_iff.mp H
   obtain⟨t268,A420,H⟩:=H
   replace H:((laws_toStretch.f a1_0 a1_1 a1_2).bind fun bt271=>((impl_StretchWord.f kj16 t268 bt271.1 bt271.2.1 bt271.2.2).bind fun t274=>((laws_eqByteS.f kj16 t274 t245).bind fun t277=>(if t277 = true then ((laws_heldByteS.f kj16 t266 1).bind fun t278=>(if t278 < 0 then (some false) else (if t278 = t265 then (some true) else (some false)))) else (some false))))) = some r:=H
   have A42:=mk0 A420
   clear A420
   replace H:=Option.bind_eq_some_iff.mp H
   obtain⟨⟨t271,t272,t273⟩,A430,H⟩:=H
   replace H:((impl_StretchWord.f kj16 t268 t271 t272 t273).bind fun t274=>((laws_eqByteS.f kj16 t274 t245).bind fun t277=>(if t277 = true then ((laws_heldByteS.f kj16 t266 1).bind fun t278=>(if t278 < 0 then (some false) else (if t278 = t265 then (some true) else (some false)))) else (some false)))) = some r:=H
   have A43:=mk0 A430
   clear A430
   replace H:=Option.bind_eq_some_iff.mp H
   obtain⟨t274,A440,H⟩:=H
   replace H:((laws_eqByteS.f kj16 t274 t245).bind fun t277=>(if t277 = true then ((laws_heldByteS.f kj16 t266 1).bind fun t278=>(if t278 < 0 then (some false) else (if t278 = t265 then (some true) else (some false)))) else (some false))) = some r:=H
   have A44:=mk0 A440
   clear A440
   replace H:=Option.bind_eq_some_iff.mp H
   obtain⟨t277,A450,H⟩:=H
   replace H:(if t277 = true then ((laws_heldByteS.f kj16 t266 1).bind fun t278=>(if t278 < 0 then (some false) else (if t278 = t265 then (some true) else (some false)))) else (some false)) = some r:=H
   have A45:=mk0 A450
   clear A450
   by_cases c46:t277 = true
   rotate_left
   ·replace c46:=Bool.eq_false_iff.mpr c46
    subst c46
    have H1:(some false) = some r:=by rw [if_neg (show ¬ (false = true) by decide)] at H;exact H
    clear H
    have H:=H1
    clear H1
    obtain rfl:=Option.some.inj H
    try go_wp2_with (first|((with_reducible refine gate_callee (f:=18) rfl ?_);refine goesL_ (some 48) rfl rfl Try.func18 (by kernel_rfl) rfl #[.slice Ao29 t254.length co29,.int .i64 1] rfl (by (try simp only [mA,mC,mN]);first|done|rfl|(simp only [List.length_drop,List.length_take];done)|(simp only [List.length_drop,List.length_take];rfl)) ?_;(with_reducible refine (laws_markByteS.calls kj16 (fun k_=>some k_ = (.slice Ao29 t254.length co29:Value).ownBlock) (.slice Ao29 t254.length co29) t254 1 t265 t266 w _ ?side1 ?side2 A37.out).mono ?_);(case side1=>repeat (first|(with_reducible first|exact HB.out|apply aZ|apply nZ|apply dZ|refine sZ ?_ GE238.out)|exact HB.out));(case side2=>exact Kd.R_tight rfl HO_7.out);rintro e w71 ⟨rfl,hy0,hb,hkp⟩;refine⟨_,rfl,?_⟩;replace HO_5:=mk0 (Kd.R_mono (ok':=fun k_=>some k_ ≠ (.slice Ao29 t254.length co29:Value).ownBlock) (Kd.R_keptB (HO_5.out) hkp (fun k_ hk_ hs_=>(hk_) hs_)) (fun k_ hk_=>hk_.1));replace BK238:=mk0 (blk_kept (kN BK238.out) hkp (fun hs_=>(fun e_=>(Kd.R_ne HO_7.out BK238.out (by decide)) e_) hs_));replace HO_7:=mk0 (Kd.R_reok rfl hy0 (fun k_ e_=>HO_7.out.1 k_ e_));replace HB:=mk0 (hb);(try clear hb);(try clear hkp);(try clear hy0))|((with_reducible refine gate_callee (f:=19) rfl ?_);refine goesL_ (some 51) rfl rfl Try.func19 (by kernel_rfl) rfl #[.slice Ao29 t266.length co29,.int .i64 1] rfl (by (try simp only [mA,mC,mN]);first|done|(rw [show t266.length = t254.length from (Kd.R_reads' HO_7.out).1.symm] <;> rfl)|rfl|(simp only [List.length_drop,List.length_take];done)|(simp only [List.length_drop,List.length_take];rfl)) ?_;(with_reducible refine (laws_heldByteS.calls kj16 _ _ t266 1 t267 _ ?side1 ?side2 A38.out).mono ?_);(case side1=>exact kC (Kd.R_reads' HO_7.out).2.2);(case side2=>rw [show t266.length = t254.length from (Kd.R_reads' HO_7.out).1.symm];exact (Kd.R_reads' HO_7.out).2.1);rintro e w' ⟨rfl,⟨nd,rfl⟩⟩;refine⟨_,rfl,?_⟩))
    (try (rw [drewN_self w71];generalize hq_:World.drewN w71 _ = w71;have n0_:Aside0 (Kd.R (Kd.int .u8) 5 w71 w.heap.size (fun k_=>some k_ ≠ (.slice Ao29 t254.length co29:Value).ownBlock) (.slice Ao30 t245.length co30) t245):=⟨by rw [← hq_];exact (rR HO_5.out)⟩;have n1_:Aside0 (Kd.R (Kd.int .u8) 5 w71 w.heap.size (fun k_=>some k_ ≠ (.slice Ao30 t245.length co30:Value).ownBlock) (.slice Ao29 t254.length co29) t266):=⟨by rw [← hq_];exact (rR HO_7.out)⟩;have n2_:Aside0 (w71.heap[gb238]? = some (.cells #[.int .i64 a1_0,.int .i64 a1_1,.int .i64 a1_2] 24 (0,0))):=⟨by rw [← hq_];exact (kN BK238.out)⟩;have n3_:Aside0 (Below w.heap.size w w71):=⟨by rw [← hq_];exact (kB HB.out)⟩;clear HO_5 HO_7 BK238 HB hq_;have HO_5:=n0_;have HO_7:=n1_;have BK238:=n2_;have HB:=n3_;clear n0_ n1_ n2_ n3_))
    replace HO_5:=mk0 (dR HO_5.out)
    replace HO_7:=mk0 (dR HO_7.out)
    replace BK238:=mk0 (dB BK238.out)
    replace HB:=mk0 (dZ HB.out)
    refine start_ (n:=6) (S:=fun w'=>w'.cell? ⟨gb238,0,none⟩ = some (.int .i64 a1_0) ∧ w'.cell? ⟨gb238,1,none⟩ = some (.int .i64 a1_1) ∧ w'.cell? ⟨gb238,2,none⟩ = some (.int .i64 a1_2)) (ds:=[]) #[false,false,false,false,false,false] (by kernel_rfl) rfl rfl (ck3 BK238.out) (fun hHeld=>?_)
    generalize w71.drew = w72 at HO_5 HO_7 BK238 HB hHeld ⊢
    refine pure_ (i:=0) (N:=some 57) (v:=?_) (a':=?_) #[true,false,false,false,false,false] rfl rfl (by kernel_rfl) (fun _ _ _ h=>h) (Or.inl ⟨by rfl,?_⟩) ?_ ?_
    rotate_left
    ·intro w'
     go_simp
     with_reducible rfl
    rotate_left
    ·simp only [Act.put,sA,sO,sS,i64_w,i32_w]
     rfl
    refine take_ (i:=2) (N:=some 59) (v:=?_) (a':=?_) #[true,false,true,false,false,false] rfl rfl (by kernel_rfl) (fun _ _ _ h=>h) (Or.inl ⟨by rfl,?_⟩) hHeld ?_ ?_
    rotate_left
    ·rintro w' ⟨s0,s1,s2⟩
     go_simp
     with_reducible rfl
    rotate_left
    ·simp only [Act.put,sA,sO,sS,i64_w,i32_w]
     rfl
    refine one_ (i:=1) (N:=some 58) #[true,true,true,false,false,false] rfl rfl (by kernel_rfl) (by decide) (fun K hK=>?_)
    refine goes_ Try.func12 (by kernel_rfl) rfl #[.slice A0 l0.length c0] (by rfl) rfl rfl (by (try simp only [mA,mC,mN]);first|done|rfl|(simp only [List.length_drop,List.length_take];done)|(simp only [List.length_drop,List.length_take];rfl)) ?_
    with_reducible refine (laws_toByteS.calls kj16 _ _ l0 t268 _ ?side1 ?side2 A42.out).mono ?_
    (case side1=>exact kC (Kd.C_below HR0.out HB.out))
    (case side2=>exact HC0.out)
    rintro e w73 ⟨v269,rfl,ho0,hb⟩
    refine⟨_,rfl,?_⟩
    have HO270:=mk0 (Kd.R_lower (Kd.R_new' (Kd.R_new' ho0 (Kd.R_lt (rR HO_5.out))) (Kd.R_lt (rR HO_7.out))) (kZ HB.out))
    replace HO_5:=mk0 (Kd.R_elder' (rR HO_5.out) (Kd.R_base ho0) hb)
    replace HO_7:=mk0 (Kd.R_elder' (rR HO_7.out) (Kd.R_base ho0) hb)
    replace BK238:=mk0 (kK BK238.out hb)
    replace HB:=mk0 (kS HB.out hb)
    (try clear hb)
    (try clear ho0)
    refine hK.out _ _ (ck3 BK238.out) (fun hHeld=>?_)
    clear hK K
    refine norm_ (a':=?_) ?_ ?_
    rotate_left
    ·show Act.put _ (some 58) _ = _
     simp only [Act.put,sA,sO,sS,i64_w,i32_w]
     rfl
    refine one_ (i:=3) (N:=some 60) #[true,true,true,true,false,false] rfl rfl (by kernel_rfl) (by decide) (fun K hK=>?_)
    refine goes_ Try.func13 (by kernel_rfl) rfl #[.agg #[.int .i64 a1_0,.int .i64 a1_1,.int .i64 a1_2]] (by rfl) rfl rfl (by (try simp only [mA,mC,mN]);first|done|rfl|(simp only [List.length_drop,List.length_take];done)|(simp only [List.length_drop,List.length_take];rfl)) ?_
    with_reducible refine (laws_toStretch.calls a1_0 a1_1 a1_2 t271 t272 t273 _ A43.out).mono ?_
    rintro e w74 ⟨rfl,hb⟩
    refine⟨_,rfl,?_⟩
    replace HO_5:=mk0 (bR HO_5.out hb)
    replace HO_7:=mk0 (bR HO_7.out hb)
    replace HO270:=mk0 (bR HO270.out hb)
    replace BK238:=mk0 (kK BK238.out hb)
    replace HB:=mk0 (kS HB.out hb)
    (try clear hb)
    obtain⟨Ao75,co75,eo75⟩:=Kd.R_slice HO270.out
    (first|subst eo75|(injection eo75 with f1_ f2_ f3_;have f4_:=f1_.symm;have f5_:=f3_.symm;clear f1_ f2_ f3_;subst f4_;subst f5_))
    refine hK.out _ _ (ck3 BK238.out) (fun hHeld=>?_)
    clear hK K
    refine norm_ (a':=?_) ?_ ?_
    rotate_left
    ·show Act.put _ (some 60) _ = _
     simp only [Act.put,sA,sO,sS,i64_w,i32_w]
     rfl
    refine one_ (i:=4) (N:=some 61) #[true,true,true,true,true,false] rfl rfl (by kernel_rfl) (by decide) (fun K hK=>?_)
    refine goes_ Try.func17 (by kernel_rfl) rfl #[.slice Ao75 t268.length co75,.agg #[.int .i64 t271,.int .i64 t272,.int .i64 t273]] (by rfl) rfl rfl (by (try simp only [mA,mC,mN]);first|done|rfl|(simp only [List.length_drop,List.length_take];done)|(simp only [List.length_drop,List.length_take];rfl)) ?_
    with_reducible refine (impl_StretchWord.calls kj16 _ _ t268 t271 t272 t273 t274 _ ?side1 ?side2 A44.out).mono ?_
    (case side1=>exact kC (Kd.R_reads' HO270.out).2.2)
    (case side2=>exact (Kd.R_reads' HO270.out).2.1)
    rintro e w76 ⟨v275,rfl,ho0,hb⟩
    refine⟨_,rfl,?_⟩
    have HO276:=mk0 (Kd.R_lower (Kd.R_new' (Kd.R_new' (Kd.R_new' ho0 (Kd.R_lt (rR HO_5.out))) (Kd.R_lt (rR HO_7.out))) (Kd.R_lt (rR HO270.out))) (kZ HB.out))
    replace HO_5:=mk0 (Kd.R_elder' (rR HO_5.out) (Kd.R_base ho0) hb)
    replace HO_7:=mk0 (Kd.R_elder' (rR HO_7.out) (Kd.R_base ho0) hb)
    replace HO270:=mk0 (Kd.R_elder' (rR HO270.out) (Kd.R_base ho0) hb)
    replace BK238:=mk0 (kK BK238.out hb)
    replace HB:=mk0 (kS HB.out hb)
    (try clear hb)
    (try clear ho0)
    refine hK.out _ _ (ck3 BK238.out) (fun hHeld=>?_)
    clear hK K
    refine norm_ (a':=?_) ?_ ?_
    rotate_left
    ·show Act.put _ (some 61) _ = _
     simp only [Act.put,sA,sO,sS,i64_w,i32_w]
     rfl
    refine pure_ (i:=5) (N:=some 11) (v:=?_) (a':=?_) #[true,true,true,true,true,true] rfl rfl (by kernel_rfl) (fun _ _ _ h=>h) (Or.inl ⟨by rfl,?_⟩) ?_ ?_
    rotate_left
    ·intro w'
     go_simp
     with_reducible rfl
    rotate_left
    ·simp only [Act.put,sA,sO,sS,i64_w,i32_w]
     rfl
    refine done_ (by kernel_rfl) ?_
    obtain⟨Ao77,co77,eo77⟩:=Kd.R_slice HO276.out
    subst eo77
    try go_wp2_with (first|((with_reducible refine gate_callee (f:=15) rfl ?_);refine goesL_ (some 64) rfl rfl Try.func15 (by kernel_rfl) rfl #[.slice Ao77 t274.length co77,.slice Ao30 t245.length co30] rfl (by (try simp only [mA,mC,mN]);first|done|rfl|(simp only [List.length_drop,List.length_take];done)|(simp only [List.length_drop,List.length_take];rfl)) ?_;(with_reducible refine (laws_eqByteS.calls kj16 _ _ t274 _ _ t245 false _ ?side1 ?side2 ?side3 ?side4 A45.out).mono ?_);(case side1=>exact kC (Kd.R_reads' HO276.out).2.2);(case side2=>exact (Kd.R_reads' HO276.out).2.1);(case side3=>exact kC (Kd.R_reads' HO_5.out).2.2);(case side4=>exact (Kd.R_reads' HO_5.out).2.1);rintro e w' ⟨rfl,⟨nd,rfl⟩⟩;refine⟨_,rfl,?_⟩))
    go_ret
    exact⟨by first|rfl|(simp [errW_none,errW_some] <;> rfl)|(simp [*,errW_none,errW_some] <;> rfl),kB HB.out⟩
   subst c46
   have H1:((laws_heldByteS.f kj16 t266 1).bind fun t278=>(if t278 < 0 then (some false) else (if t278 = t265 then (some true) else (some false)))) = some r:=by rw [if_pos rfl] at H;exact H
   clear H
   have H:=H1
   clear H1
   replace H:=Option.bind_eq_some_iff.mp H
   obtain⟨t278,A470,H⟩:=H
   replace H:(if t278 < 0 then (some false) else (if t278 = t265 then (some true) else (some false))) = some r:=H
   have A47:=mk0 A470
   clear A470
   by_cases c48:t278 < 0
   ·rw [if_pos c48] at H
    have c48b0:decide (t278 < 0) = true:=decide_eq_true c48
    clear c48
    obtain rfl:=Option.some.inj H
    try go_wp2_with (first|((with_reducible refine gate_callee (f:=18) rfl ?_);refine goesL_ (some 48) rfl rfl Try.func18 (by kernel_rfl) rfl #[.slice Ao29 t254.length co29,.int .i64 1] rfl (by (try simp only [mA,mC,mN]);first|done|rfl|(simp only [List.length_drop,List.length_take];done)|(simp only [List.length_drop,List.length_take];rfl)) ?_;(with_reducible refine (laws_markByteS.calls kj16 (fun k_=>some k_ = (.slice Ao29 t254.length co29:Value).ownBlock) (.slice Ao29 t254.length co29) t254 1 t265 t266 w _ ?side1 ?side2 A37.out).mono ?_);(case side1=>repeat (first|(with_reducible first|exact HB.out|apply aZ|apply nZ|apply dZ|refine sZ ?_ GE238.out)|exact HB.out));(case side2=>exact Kd.R_tight rfl HO_7.out);rintro e w49 ⟨rfl,hy0,hb,hkp⟩;refine⟨_,rfl,?_⟩;replace HO_5:=mk0 (Kd.R_mono (ok':=fun k_=>some k_ ≠ (.slice Ao29 t254.length co29:Value).ownBlock) (Kd.R_keptB (HO_5.out) hkp (fun k_ hk_ hs_=>(hk_) hs_)) (fun k_ hk_=>hk_.1));replace BK238:=mk0 (blk_kept (kN BK238.out) hkp (fun hs_=>(fun e_=>(Kd.R_ne HO_7.out BK238.out (by decide)) e_) hs_));replace HO_7:=mk0 (Kd.R_reok rfl hy0 (fun k_ e_=>HO_7.out.1 k_ e_));replace HB:=mk0 (hb);(try clear hb);(try clear hkp);(try clear hy0))|((with_reducible refine gate_callee (f:=19) rfl ?_);refine goesL_ (some 51) rfl rfl Try.func19 (by kernel_rfl) rfl #[.slice Ao29 t266.length co29,.int .i64 1] rfl (by (try simp only [mA,mC,mN]);first|done|(rw [show t266.length = t254.length from (Kd.R_reads' HO_7.out).1.symm] <;> rfl)|rfl|(simp only [List.length_drop,List.length_take];done)|(simp only [List.length_drop,List.length_take];rfl)) ?_;(with_reducible refine (laws_heldByteS.calls kj16 _ _ t266 1 t267 _ ?side1 ?side2 A38.out).mono ?_);(case side1=>exact kC (Kd.R_reads' HO_7.out).2.2);(case side2=>rw [show t266.length = t254.length from (Kd.R_reads' HO_7.out).1.symm];exact (Kd.R_reads' HO_7.out).2.1);rintro e w' ⟨rfl,⟨nd,rfl⟩⟩;refine⟨_,rfl,?_⟩))
    (try (rw [drewN_self w49];generalize hq_:World.drewN w49 _ = w49;have n0_:Aside0 (Kd.R (Kd.int .u8) 5 w49 w.heap.size (fun k_=>some k_ ≠ (.slice Ao29 t254.length co29:Value).ownBlock) (.slice Ao30 t245.length co30) t245):=⟨by rw [← hq_];exact (rR HO_5.out)⟩;have n1_:Aside0 (Kd.R (Kd.int .u8) 5 w49 w.heap.size (fun k_=>some k_ ≠ (.slice Ao30 t245.length co30:Value).ownBlock) (.slice Ao29 t254.length co29) t266):=⟨by rw [← hq_];exact (rR HO_7.out)⟩;have n2_:Aside0 (w49.heap[gb238]? = some (.cells #[.int .i64 a1_0,.int .i64 a1_1,.int .i64 a1_2] 24 (0,0))):=⟨by rw [← hq_];exact (kN BK238.out)⟩;have n3_:Aside0 (Below w.heap.size w w49):=⟨by rw [← hq_];exact (kB HB.out)⟩;clear HO_5 HO_7 BK238 HB hq_;have HO_5:=n0_;have HO_7:=n1_;have BK238:=n2_;have HB:=n3_;clear n0_ n1_ n2_ n3_))
    replace HO_5:=mk0 (dR HO_5.out)
    replace HO_7:=mk0 (dR HO_7.out)
    replace BK238:=mk0 (dB BK238.out)
    replace HB:=mk0 (dZ HB.out)
    refine start_ (n:=6) (S:=fun w'=>w'.cell? ⟨gb238,0,none⟩ = some (.int .i64 a1_0) ∧ w'.cell? ⟨gb238,1,none⟩ = some (.int .i64 a1_1) ∧ w'.cell? ⟨gb238,2,none⟩ = some (.int .i64 a1_2)) (ds:=[]) #[false,false,false,false,false,false] (by kernel_rfl) rfl rfl (ck3 BK238.out) (fun hHeld=>?_)
    generalize w49.drew = w50 at HO_5 HO_7 BK238 HB hHeld ⊢
    refine pure_ (i:=0) (N:=some 57) (v:=?_) (a':=?_) #[true,false,false,false,false,false] rfl rfl (by kernel_rfl) (fun _ _ _ h=>h) (Or.inl ⟨by rfl,?_⟩) ?_ ?_
    rotate_left
    ·intro w'
     go_simp
     with_reducible rfl
    rotate_left
    ·simp only [Act.put,sA,sO,sS,i64_w,i32_w]
     rfl
    refine take_ (i:=2) (N:=some 59) (v:=?_) (a':=?_) #[true,false,true,false,false,false] rfl rfl (by kernel_rfl) (fun _ _ _ h=>h) (Or.inl ⟨by rfl,?_⟩) hHeld ?_ ?_
    rotate_left
    ·rintro w' ⟨s0,s1,s2⟩
     go_simp
     with_reducible rfl
    rotate_left
    ·simp only [Act.put,sA,sO,sS,i64_w,i32_w]
     rfl
    refine one_ (i:=1) (N:=some 58) #[true,true,true,false,false,false] rfl rfl (by kernel_rfl) (by decide) (fun K hK=>?_)
    refine goes_ Try.func12 (by kernel_rfl) rfl #[.slice A0 l0.length c0] (by rfl) rfl rfl (by (try simp only [mA,mC,mN]);first|done|rfl|(simp only [List.length_drop,List.length_take];done)|(simp only [List.length_drop,List.length_take];rfl)) ?_
    with_reducible refine (laws_toByteS.calls kj16 _ _ l0 t268 _ ?side1 ?side2 A42.out).mono ?_
    (case side1=>exact kC (Kd.C_below HR0.out HB.out))
    (case side2=>exact HC0.out)
    rintro e w51 ⟨v269,rfl,ho0,hb⟩
    refine⟨_,rfl,?_⟩
    have HO270:=mk0 (Kd.R_lower (Kd.R_new' (Kd.R_new' ho0 (Kd.R_lt (rR HO_5.out))) (Kd.R_lt (rR HO_7.out))) (kZ HB.out))
    replace HO_5:=mk0 (Kd.R_elder' (rR HO_5.out) (Kd.R_base ho0) hb)
    replace HO_7:=mk0 (Kd.R_elder' (rR HO_7.out) (Kd.R_base ho0) hb)
    replace BK238:=mk0 (kK BK238.out hb)
    replace HB:=mk0 (kS HB.out hb)
    (try clear hb)
    (try clear ho0)
    refine hK.out _ _ (ck3 BK238.out) (fun hHeld=>?_)
    clear hK K
    refine norm_ (a':=?_) ?_ ?_
    rotate_left
    ·show Act.put _ (some 58) _ = _
     simp only [Act.put,sA,sO,sS,i64_w,i32_w]
     rfl
    refine one_ (i:=3) (N:=some 60) #[true,true,true,true,false,false] rfl rfl (by kernel_rfl) (by decide) (fun K hK=>?_)
    refine goes_ Try.func13 (by kernel_rfl) rfl #[.agg #[.int .i64 a1_0,.int .i64 a1_1,.int .i64 a1_2]] (by rfl) rfl rfl (by (try simp only [mA,mC,mN]);first|done|rfl|(simp only [List.length_drop,List.length_take];done)|(simp only [List.length_drop,List.length_take];rfl)) ?_
    with_reducible refine (laws_toStretch.calls a1_0 a1_1 a1_2 t271 t272 t273 _ A43.out).mono ?_
    rintro e w52 ⟨rfl,hb⟩
    refine⟨_,rfl,?_⟩
    replace HO_5:=mk0 (bR HO_5.out hb)
    replace HO_7:=mk0 (bR HO_7.out hb)
    replace HO270:=mk0 (bR HO270.out hb)
    replace BK238:=mk0 (kK BK238.out hb)
    replace HB:=mk0 (kS HB.out hb)
    (try clear hb)
    obtain⟨Ao53,co53,eo53⟩:=Kd.R_slice HO270.out
    (first|subst eo53|(injection eo53 with f1_ f2_ f3_;have f4_:=f1_.symm;have f5_:=f3_.symm;clear f1_ f2_ f3_;subst f4_;subst f5_))
    refine hK.out _ _ (ck3 BK238.out) (fun hHeld=>?_)
    clear hK K
    refine norm_ (a':=?_) ?_ ?_
    rotate_left
    ·show Act.put _ (some 60) _ = _
     simp only [Act.put,sA,sO,sS,i64_w,i32_w]
     rfl
    refine one_ (i:=4) (N:=some 61) #[true,true,true,true,true,false] rfl rfl (by kernel_rfl) (by decide) (fun K hK=>?_)
    refine goes_ Try.func17 (by kernel_rfl) rfl #[.slice Ao53 t268.length co53,.agg #[.int .i64 t271,.int .i64 t272,.int .i64 t273]] (by rfl) rfl rfl (by (try simp only [mA,mC,mN]);first|done|rfl|(simp only [List.length_drop,List.length_take];done)|(simp only [List.length_drop,List.length_take];rfl)) ?_
    with_reducible refine (impl_StretchWord.calls kj16 _ _ t268 t271 t272 t273 t274 _ ?side1 ?side2 A44.out).mono ?_
    (case side1=>exact kC (Kd.R_reads' HO270.out).2.2)
    (case side2=>exact (Kd.R_reads' HO270.out).2.1)
    rintro e w54 ⟨v275,rfl,ho0,hb⟩
    refine⟨_,rfl,?_⟩
    have HO276:=mk0 (Kd.R_lower (Kd.R_new' (Kd.R_new' (Kd.R_new' ho0 (Kd.R_lt (rR HO_5.out))) (Kd.R_lt (rR HO_7.out))) (Kd.R_lt (rR HO270.out))) (kZ HB.out))
    replace HO_5:=mk0 (Kd.R_elder' (rR HO_5.out) (Kd.R_base ho0) hb)
    replace HO_7:=mk0 (Kd.R_elder' (rR HO_7.out) (Kd.R_base ho0) hb)
    replace HO270:=mk0 (Kd.R_elder' (rR HO270.out) (Kd.R_base ho0) hb)
    replace BK238:=mk0 (kK BK238.out hb)
    replace HB:=mk0 (kS HB.out hb)
    (try clear hb)
    (try clear ho0)
    refine hK.out _ _ (ck3 BK238.out) (fun hHeld=>?_)
    clear hK K
    refine norm_ (a':=?_) ?_ ?_
    rotate_left
    ·show Act.put _ (some 61) _ = _
     simp only [Act.put,sA,sO,sS,i64_w,i32_w]
     rfl
    refine pure_ (i:=5) (N:=some 11) (v:=?_) (a':=?_) #[true,true,true,true,true,true] rfl rfl (by kernel_rfl) (fun _ _ _ h=>h) (Or.inl ⟨by rfl,?_⟩) ?_ ?_
    rotate_left
    ·intro w'
     go_simp
     with_reducible rfl
    rotate_left
    ·simp only [Act.put,sA,sO,sS,i64_w,i32_w]
     rfl
    refine done_ (by kernel_rfl) ?_
    obtain⟨Ao55,co55,eo55⟩:=Kd.R_slice HO276.out
    subst eo55
    try go_wp2_with (first|((with_reducible refine gate_callee (f:=15) rfl ?_);refine goesL_ (some 64) rfl rfl Try.func15 (by kernel_rfl) rfl #[.slice Ao55 t274.length co55,.slice Ao30 t245.length co30] rfl (by (try simp only [mA,mC,mN]);first|done|rfl|(simp only [List.length_drop,List.length_take];done)|(simp only [List.length_drop,List.length_take];rfl)) ?_;(with_reducible refine (laws_eqByteS.calls kj16 _ _ t274 _ _ t245 true _ ?side1 ?side2 ?side3 ?side4 A45.out).mono ?_);(case side1=>exact kC (Kd.R_reads' HO276.out).2.2);(case side2=>exact (Kd.R_reads' HO276.out).2.1);(case side3=>exact kC (Kd.R_reads' HO_5.out).2.2);(case side4=>exact (Kd.R_reads' HO_5.out).2.1);rintro e w' ⟨rfl,⟨nd,rfl⟩⟩;refine⟨_,rfl,?_⟩)|((with_reducible refine gate_callee (f:=19) rfl ?_);refine goesL_ (some 68) rfl rfl Try.func19 (by kernel_rfl) rfl #[.slice Ao29 t266.length co29,.int .i64 1] rfl (by (try simp only [mA,mC,mN]);first|done|(rw [show t266.length = t254.length from (Kd.R_reads' HO_7.out).1.symm] <;> rfl)|rfl|(simp only [List.length_drop,List.length_take];done)|(simp only [List.length_drop,List.length_take];rfl)) ?_;(with_reducible refine (laws_heldByteS.calls kj16 _ _ t266 1 t278 _ ?side1 ?side2 A47.out).mono ?_);(case side1=>exact kC (Kd.R_reads' HO_7.out).2.2);(case side2=>rw [show t266.length = t254.length from (Kd.R_reads' HO_7.out).1.symm];exact (Kd.R_reads' HO_7.out).2.1);rintro e w' ⟨rfl,⟨nd,rfl⟩⟩;refine⟨_,rfl,?_⟩))
    go_ret
    exact⟨by first|rfl|(simp [errW_none,errW_some] <;> rfl)|(simp [*,errW_none,errW_some] <;> rfl),kB HB.out⟩
   rw [if_neg c48] at H
   have c48b0:decide (t278 < 0) = false:=decide_eq_false c48
   clear c48
   by_cases c56:t278 = t265
   rotate_left
   ·rw [if_neg c56] at H
    have c56b0:(t278 == t265) = false:=beq_eq_false_iff_ne.mpr c56
    have c56b1:(t278 != t265) = true:=bne_iff_ne.mpr c56
    obtain rfl:=Option.some.inj H
    try go_wp2_with (first|((with_reducible refine gate_callee (f:=18) rfl ?_);refine goesL_ (some 48) rfl rfl Try.func18 (by kernel_rfl) rfl #[.slice Ao29 t254.length co29,.int .i64 1] rfl (by (try simp only [mA,mC,mN]);first|done|rfl|(simp only [List.length_drop,List.length_take];done)|(simp only [List.length_drop,List.length_take];rfl)) ?_;(with_reducible refine (laws_markByteS.calls kj16 (fun k_=>some k_ = (.slice Ao29 t254.length co29:Value).ownBlock) (.slice Ao29 t254.length co29) t254 1 t265 t266 w _ ?side1 ?side2 A37.out).mono ?_);(case side1=>repeat (first|(with_reducible first|exact HB.out|apply aZ|apply nZ|apply dZ|refine sZ ?_ GE238.out)|exact HB.out));(case side2=>exact Kd.R_tight rfl HO_7.out);rintro e w64 ⟨rfl,hy0,hb,hkp⟩;refine⟨_,rfl,?_⟩;replace HO_5:=mk0 (Kd.R_mono (ok':=fun k_=>some k_ ≠ (.slice Ao29 t254.length co29:Value).ownBlock) (Kd.R_keptB (HO_5.out) hkp (fun k_ hk_ hs_=>(hk_) hs_)) (fun k_ hk_=>hk_.1));replace BK238:=mk0 (blk_kept (kN BK238.out) hkp (fun hs_=>(fun e_=>(Kd.R_ne HO_7.out BK238.out (by decide)) e_) hs_));replace HO_7:=mk0 (Kd.R_reok rfl hy0 (fun k_ e_=>HO_7.out.1 k_ e_));replace HB:=mk0 (hb);(try clear hb);(try clear hkp);(try clear hy0))|((with_reducible refine gate_callee (f:=19) rfl ?_);refine goesL_ (some 51) rfl rfl Try.func19 (by kernel_rfl) rfl #[.slice Ao29 t266.length co29,.int .i64 1] rfl (by (try simp only [mA,mC,mN]);first|done|(rw [show t266.length = t254.length from (Kd.R_reads' HO_7.out).1.symm] <;> rfl)|rfl|(simp only [List.length_drop,List.length_take];done)|(simp only [List.length_drop,List.length_take];rfl)) ?_;(with_reducible refine (laws_heldByteS.calls kj16 _ _ t266 1 t267 _ ?side1 ?side2 A38.out).mono ?_);(case side1=>exact kC (Kd.R_reads' HO_7.out).2.2);(case side2=>rw [show t266.length = t254.length from (Kd.R_reads' HO_7.out).1.symm];exact (Kd.R_reads' HO_7.out).2.1);rintro e w' ⟨rfl,⟨nd,rfl⟩⟩;refine⟨_,rfl,?_⟩))
    (try (rw [drewN_self w64];generalize hq_:World.drewN w64 _ = w64;have n0_:Aside0 (Kd.R (Kd.int .u8) 5 w64 w.heap.size (fun k_=>some k_ ≠ (.slice Ao29 t254.length co29:Value).ownBlock) (.slice Ao30 t245.length co30) t245):=⟨by rw [← hq_];exact (rR HO_5.out)⟩;have n1_:Aside0 (Kd.R (Kd.int .u8) 5 w64 w.heap.size (fun k_=>some k_ ≠ (.slice Ao30 t245.length co30:Value).ownBlock) (.slice Ao29 t254.length co29) t266):=⟨by rw [← hq_];exact (rR HO_7.out)⟩;have n2_:Aside0 (w64.heap[gb238]? = some (.cells #[.int .i64 a1_0,.int .i64 a1_1,.int .i64 a1_2] 24 (0,0))):=⟨by rw [← hq_];exact (kN BK238.out)⟩;have n3_:Aside0 (Below w.heap.size w w64):=⟨by rw [← hq_];exact (kB HB.out)⟩;clear HO_5 HO_7 BK238 HB hq_;have HO_5:=n0_;have HO_7:=n1_;have BK238:=n2_;have HB:=n3_;clear n0_ n1_ n2_ n3_))
    replace HO_5:=mk0 (dR HO_5.out)
    replace HO_7:=mk0 (dR HO_7.out)
    replace BK238:=mk0 (dB BK238.out)
    replace HB:=mk0 (dZ HB.out)
    refine start_ (n:=6) (S:=fun w'=>w'.cell? ⟨gb238,0,none⟩ = some (.int .i64 a1_0) ∧ w'.cell? ⟨gb238,1,none⟩ = some (.int .i64 a1_1) ∧ w'.cell? ⟨gb238,2,none⟩ = some (.int .i64 a1_2)) (ds:=[]) #[false,false,false,false,false,false] (by kernel_rfl) rfl rfl (ck3 BK238.out) (fun hHeld=>?_)
    generalize w64.drew = w65 at HO_5 HO_7 BK238 HB hHeld ⊢
    refine pure_ (i:=0) (N:=some 57) (v:=?_) (a':=?_) #[true,false,false,false,false,false] rfl rfl (by kernel_rfl) (fun _ _ _ h=>h) (Or.inl ⟨by rfl,?_⟩) ?_ ?_
    rotate_left
    ·intro w'
     go_simp
     with_reducible rfl
    rotate_left
    ·simp only [Act.put,sA,sO,sS,i64_w,i32_w]
     rfl
    refine take_ (i:=2) (N:=some 59) (v:=?_) (a':=?_) #[true,false,true,false,false,false] rfl rfl (by kernel_rfl) (fun _ _ _ h=>h) (Or.inl ⟨by rfl,?_⟩) hHeld ?_ ?_
    rotate_left
    ·rintro w' ⟨s0,s1,s2⟩
     go_simp
     with_reducible rfl
    rotate_left
    ·simp only [Act.put,sA,sO,sS,i64_w,i32_w]
     rfl
    refine one_ (i:=1) (N:=some 58) #[true,true,true,false,false,false] rfl rfl (by kernel_rfl) (by decide) (fun K hK=>?_)
    refine goes_ Try.func12 (by kernel_rfl) rfl #[.slice A0 l0.length c0] (by rfl) rfl rfl (by (try simp only [mA,mC,mN]);first|done|rfl|(simp only [List.length_drop,List.length_take];done)|(simp only [List.length_drop,List.length_take];rfl)) ?_
    with_reducible refine (laws_toByteS.calls kj16 _ _ l0 t268 _ ?side1 ?side2 A42.out).mono ?_
    (case side1=>exact kC (Kd.C_below HR0.out HB.out))
    (case side2=>exact HC0.out)
    rintro e w66 ⟨v269,rfl,ho0,hb⟩
    refine⟨_,rfl,?_⟩
    have HO270:=mk0 (Kd.R_lower (Kd.R_new' (Kd.R_new' ho0 (Kd.R_lt (rR HO_5.out))) (Kd.R_lt (rR HO_7.out))) (kZ HB.out))
    replace HO_5:=mk0 (Kd.R_elder' (rR HO_5.out) (Kd.R_base ho0) hb)
    replace HO_7:=mk0 (Kd.R_elder' (rR HO_7.out) (Kd.R_base ho0) hb)
    replace BK238:=mk0 (kK BK238.out hb)
    replace HB:=mk0 (kS HB.out hb)
    (try clear hb)
    (try clear ho0)
    refine hK.out _ _ (ck3 BK238.out) (fun hHeld=>?_)
    clear hK K
    refine norm_ (a':=?_) ?_ ?_
    rotate_left
    ·show Act.put _ (some 58) _ = _
     simp only [Act.put,sA,sO,sS,i64_w,i32_w]
     rfl
    refine one_ (i:=3) (N:=some 60) #[true,true,true,true,false,false] rfl rfl (by kernel_rfl) (by decide) (fun K hK=>?_)
    refine goes_ Try.func13 (by kernel_rfl) rfl #[.agg #[.int .i64 a1_0,.int .i64 a1_1,.int .i64 a1_2]] (by rfl) rfl rfl (by (try simp only [mA,mC,mN]);first|done|rfl|(simp only [List.length_drop,List.length_take];done)|(simp only [List.length_drop,List.length_take];rfl)) ?_
    with_reducible refine (laws_toStretch.calls a1_0 a1_1 a1_2 t271 t272 t273 _ A43.out).mono ?_
    rintro e w67 ⟨rfl,hb⟩
    refine⟨_,rfl,?_⟩
    replace HO_5:=mk0 (bR HO_5.out hb)
    replace HO_7:=mk0 (bR HO_7.out hb)
    replace HO270:=mk0 (bR HO270.out hb)
    replace BK238:=mk0 (kK BK238.out hb)
    replace HB:=mk0 (kS HB.out hb)
    (try clear hb)
    obtain⟨Ao68,co68,eo68⟩:=Kd.R_slice HO270.out
    (first|subst eo68|(injection eo68 with f1_ f2_ f3_;have f4_:=f1_.symm;have f5_:=f3_.symm;clear f1_ f2_ f3_;subst f4_;subst f5_))
    refine hK.out _ _ (ck3 BK238.out) (fun hHeld=>?_)
    clear hK K
    refine norm_ (a':=?_) ?_ ?_
    rotate_left
    ·show Act.put _ (some 60) _ = _
     simp only [Act.put,sA,sO,sS,i64_w,i32_w]
     rfl
    refine one_ (i:=4) (N:=some 61) #[true,true,true,true,true,false] rfl rfl (by kernel_rfl) (by decide) (fun K hK=>?_)
    refine goes_ Try.func17 (by kernel_rfl) rfl #[.slice Ao68 t268.length co68,.agg #[.int .i64 t271,.int .i64 t272,.int .i64 t273]] (by rfl) rfl rfl (by (try simp only [mA,mC,mN]);first|done|rfl|(simp only [List.length_drop,List.length_take];done)|(simp only [List.length_drop,List.length_take];rfl)) ?_
    with_reducible refine (impl_StretchWord.calls kj16 _ _ t268 t271 t272 t273 t274 _ ?side1 ?side2 A44.out).mono ?_
    (case side1=>exact kC (Kd.R_reads' HO270.out).2.2)
    (case side2=>exact (Kd.R_reads' HO270.out).2.1)
    rintro e w69 ⟨v275,rfl,ho0,hb⟩
    refine⟨_,rfl,?_⟩
    have HO276:=mk0 (Kd.R_lower (Kd.R_new' (Kd.R_new' (Kd.R_new' ho0 (Kd.R_lt (rR HO_5.out))) (Kd.R_lt (rR HO_7.out))) (Kd.R_lt (rR HO270.out))) (kZ HB.out))
    replace HO_5:=mk0 (Kd.R_elder' (rR HO_5.out) (Kd.R_base ho0) hb)
    replace HO_7:=mk0 (Kd.R_elder' (rR HO_7.out) (Kd.R_base ho0) hb)
    replace HO270:=mk0 (Kd.R_elder' (rR HO270.out) (Kd.R_base ho0) hb)
    replace BK238:=mk0 (kK BK238.out hb)
    replace HB:=mk0 (kS HB.out hb)
    (try clear hb)
    (try clear ho0)
    refine hK.out _ _ (ck3 BK238.out) (fun hHeld=>?_)
    clear hK K
    refine norm_ (a':=?_) ?_ ?_
    rotate_left
    ·show Act.put _ (some 61) _ = _
     simp only [Act.put,sA,sO,sS,i64_w,i32_w]
     rfl
    refine pure_ (i:=5) (N:=some 11) (v:=?_) (a':=?_) #[true,true,true,true,true,true] rfl rfl (by kernel_rfl) (fun _ _ _ h=>h) (Or.inl ⟨by rfl,?_⟩) ?_ ?_
    rotate_left
    ·intro w'
     go_simp
     with_reducible rfl
    rotate_left
    ·simp only [Act.put,sA,sO,sS,i64_w,i32_w]
     rfl
    refine done_ (by kernel_rfl) ?_
    obtain⟨Ao70,co70,eo70⟩:=Kd.R_slice HO276.out
    subst eo70
    try go_wp2_with (first|((with_reducible refine gate_callee (f:=15) rfl ?_);refine goesL_ (some 64) rfl rfl Try.func15 (by kernel_rfl) rfl #[.slice Ao70 t274.length co70,.slice Ao30 t245.length co30] rfl (by (try simp only [mA,mC,mN]);first|done|rfl|(simp only [List.length_drop,List.length_take];done)|(simp only [List.length_drop,List.length_take];rfl)) ?_;(with_reducible refine (laws_eqByteS.calls kj16 _ _ t274 _ _ t245 true _ ?side1 ?side2 ?side3 ?side4 A45.out).mono ?_);(case side1=>exact kC (Kd.R_reads' HO276.out).2.2);(case side2=>exact (Kd.R_reads' HO276.out).2.1);(case side3=>exact kC (Kd.R_reads' HO_5.out).2.2);(case side4=>exact (Kd.R_reads' HO_5.out).2.1);rintro e w' ⟨rfl,⟨nd,rfl⟩⟩;refine⟨_,rfl,?_⟩)|((with_reducible refine gate_callee (f:=19) rfl ?_);refine goesL_ (some 68) rfl rfl Try.func19 (by kernel_rfl) rfl #[.slice Ao29 t266.length co29,.int .i64 1] rfl (by (try simp only [mA,mC,mN]);first|done|(rw [show t266.length = t254.length from (Kd.R_reads' HO_7.out).1.symm] <;> rfl)|rfl|(simp only [List.length_drop,List.length_take];done)|(simp only [List.length_drop,List.length_take];rfl)) ?_;(with_reducible refine (laws_heldByteS.calls kj16 _ _ t266 1 t278 _ ?side1 ?side2 A47.out).mono ?_);(case side1=>exact kC (Kd.R_reads' HO_7.out).2.2);(case side2=>rw [show t266.length = t254.length from (Kd.R_reads' HO_7.out).1.symm];exact (Kd.R_reads' HO_7.out).2.1);rintro e w' ⟨rfl,⟨nd,rfl⟩⟩;refine⟨_,rfl,?_⟩))
    go_ret
    exact⟨by first|rfl|(simp [errW_none,errW_some] <;> rfl)|(simp [*,errW_none,errW_some] <;> rfl),kB HB.out⟩
   rw [if_pos c56] at H
   have c56b0:(t278 == t265) = true:=beq_iff_eq.mpr c56
   have c56b1:(t278 != t265) = false:=bne_eq_false_iff_eq.mpr c56
   clear c56
   obtain rfl:=Option.some.inj H
   try go_wp2_with (first|((with_reducible refine gate_callee (f:=18) rfl ?_);refine goesL_ (some 48) rfl rfl Try.func18 (by kernel_rfl) rfl #[.slice Ao29 t254.length co29,.int .i64 1] rfl (by (try simp only [mA,mC,mN]);first|done|rfl|(simp only [List.length_drop,List.length_take];done)|(simp only [List.length_drop,List.length_take];rfl)) ?_;(with_reducible refine (laws_markByteS.calls kj16 (fun k_=>some k_ = (.slice Ao29 t254.length co29:Value).ownBlock) (.slice Ao29 t254.length co29) t254 1 t265 t266 w _ ?side1 ?side2 A37.out).mono ?_);(case side1=>repeat (first|(with_reducible first|exact HB.out|apply aZ|apply nZ|apply dZ|refine sZ ?_ GE238.out)|exact HB.out));(case side2=>exact Kd.R_tight rfl HO_7.out);rintro e w57 ⟨rfl,hy0,hb,hkp⟩;refine⟨_,rfl,?_⟩;replace HO_5:=mk0 (Kd.R_mono (ok':=fun k_=>some k_ ≠ (.slice Ao29 t254.length co29:Value).ownBlock) (Kd.R_keptB (HO_5.out) hkp (fun k_ hk_ hs_=>(hk_) hs_)) (fun k_ hk_=>hk_.1));replace BK238:=mk0 (blk_kept (kN BK238.out) hkp (fun hs_=>(fun e_=>(Kd.R_ne HO_7.out BK238.out (by decide)) e_) hs_));replace HO_7:=mk0 (Kd.R_reok rfl hy0 (fun k_ e_=>HO_7.out.1 k_ e_));replace HB:=mk0 (hb);(try clear hb);(try clear hkp);(try clear hy0))|((with_reducible refine gate_callee (f:=19) rfl ?_);refine goesL_ (some 51) rfl rfl Try.func19 (by kernel_rfl) rfl #[.slice Ao29 t266.length co29,.int .i64 1] rfl (by (try simp only [mA,mC,mN]);first|done|(rw [show t266.length = t254.length from (Kd.R_reads' HO_7.out).1.symm] <;> rfl)|rfl|(simp only [List.length_drop,List.length_take];done)|(simp only [List.length_drop,List.length_take];rfl)) ?_;(with_reducible refine (laws_heldByteS.calls kj16 _ _ t266 1 t267 _ ?side1 ?side2 A38.out).mono ?_);(case side1=>exact kC (Kd.R_reads' HO_7.out).2.2);(case side2=>rw [show t266.length = t254.length from (Kd.R_reads' HO_7.out).1.symm];exact (Kd.R_reads' HO_7.out).2.1);rintro e w' ⟨rfl,⟨nd,rfl⟩⟩;refine⟨_,rfl,?_⟩))
   (try (rw [drewN_self w57];generalize hq_:World.drewN w57 _ = w57;have n0_:Aside0 (Kd.R (Kd.int .u8) 5 w57 w.heap.size (fun k_=>some k_ ≠ (.slice Ao29 t254.length co29:Value).ownBlock) (.slice Ao30 t245.length co30) t245):=⟨by rw [← hq_];exact (rR HO_5.out)⟩;have n1_:Aside0 (Kd.R (Kd.int .u8) 5 w57 w.heap.size (fun k_=>some k_ ≠ (.slice Ao30 t245.length co30:Value).ownBlock) (.slice Ao29 t254.length co29) t266):=⟨by rw [← hq_];exact (rR HO_7.out)⟩;have n2_:Aside0 (w57.heap[gb238]? = some (.cells #[.int .i64 a1_0,.int .i64 a1_1,.int .i64 a1_2] 24 (0,0))):=⟨by rw [← hq_];exact (kN BK238.out)⟩;have n3_:Aside0 (Below w.heap.size w w57):=⟨by rw [← hq_];exact (kB HB.out)⟩;clear HO_5 HO_7 BK238 HB hq_;have HO_5:=n0_;have HO_7:=n1_;have BK238:=n2_;have HB:=n3_;clear n0_ n1_ n2_ n3_))
   replace HO_5:=mk0 (dR HO_5.out)
   replace HO_7:=mk0 (dR HO_7.out)
   replace BK238:=mk0 (dB BK238.out)
   replace HB:=mk0 (dZ HB.out)
   refine start_ (n:=6) (S:=fun w'=>w'.cell? ⟨gb238,0,none⟩ = some (.int .i64 a1_0) ∧ w'.cell? ⟨gb238,1,none⟩ = some (.int .i64 a1_1) ∧ w'.cell? ⟨gb238,2,none⟩ = some (.int .i64 a1_2)) (ds:=[]) #[false,false,false,false,false,false] (by kernel_rfl) rfl rfl (ck3 BK238.out) (fun hHeld=>?_)
   generalize w57.drew = w58 at HO_5 HO_7 BK238 HB hHeld ⊢
   refine pure_ (i:=0) (N:=some 57) (v:=?_) (a':=?_) #[true,false,false,false,false,false] rfl rfl (by kernel_rfl) (fun _ _ _ h=>h) (Or.inl ⟨by rfl,?_⟩) ?_ ?_
   rotate_left
   ·intro w'
    go_simp
    with_reducible rfl
   rotate_left
   ·simp only [Act.put,sA,sO,sS,i64_w,i32_w]
    rfl
   refine take_ (i:=2) (N:=some 59) (v:=?_) (a':=?_) #[true,false,true,false,false,false] rfl rfl (by kernel_rfl) (fun _ _ _ h=>h) (Or.inl ⟨by rfl,?_⟩) hHeld ?_ ?_
   rotate_left
   ·rintro w' ⟨s0,s1,s2⟩
    go_simp
    with_reducible rfl
   rotate_left
   ·simp only [Act.put,sA,sO,sS,i64_w,i32_w]
    rfl
   refine one_ (i:=1) (N:=some 58) #[true,true,true,false,false,false] rfl rfl (by kernel_rfl) (by decide) (fun K hK=>?_)
   refine goes_ Try.func12 (by kernel_rfl) rfl #[.slice A0 l0.length c0] (by rfl) rfl rfl (by (try simp only [mA,mC,mN]);first|done|rfl|(simp only [List.length_drop,List.length_take];done)|(simp only [List.length_drop,List.length_take];rfl)) ?_
   with_reducible refine (laws_toByteS.calls kj16 _ _ l0 t268 _ ?side1 ?side2 A42.out).mono ?_
   (case side1=>exact kC (Kd.C_below HR0.out HB.out))
   (case side2=>exact HC0.out)
   rintro e w59 ⟨v269,rfl,ho0,hb⟩
   refine⟨_,rfl,?_⟩
   have HO270:=mk0 (Kd.R_lower (Kd.R_new' (Kd.R_new' ho0 (Kd.R_lt (rR HO_5.out))) (Kd.R_lt (rR HO_7.out))) (kZ HB.out))
   replace HO_5:=mk0 (Kd.R_elder' (rR HO_5.out) (Kd.R_base ho0) hb)
   replace HO_7:=mk0 (Kd.R_elder' (rR HO_7.out) (Kd.R_base ho0) hb)
   replace BK238:=mk0 (kK BK238.out hb)
   replace HB:=mk0 (kS HB.out hb)
   (try clear hb)
   (try clear ho0)
   refine hK.out _ _ (ck3 BK238.out) (fun hHeld=>?_)
   clear hK K
   refine norm_ (a':=?_) ?_ ?_
   rotate_left
   ·show Act.put _ (some 58) _ = _
    simp only [Act.put,sA,sO,sS,i64_w,i32_w]
    rfl
   refine one_ (i:=3) (N:=some 60) #[true,true,true,true,false,false] rfl rfl (by kernel_rfl) (by decide) (fun K hK=>?_)
   refine goes_ Try.func13 (by kernel_rfl) rfl #[.agg #[.int .i64 a1_0,.int .i64 a1_1,.int .i64 a1_2]] (by rfl) rfl rfl (by (try simp only [mA,mC,mN]);first|done|rfl|(simp only [List.length_drop,List.length_take];done)|(simp only [List.length_drop,List.length_take];rfl)) ?_
   with_reducible refine (laws_toStretch.calls a1_0 a1_1 a1_2 t271 t272 t273 _ A43.out).mono ?_
   rintro e w60 ⟨rfl,hb⟩
   refine⟨_,rfl,?_⟩
   replace HO_5:=mk0 (bR HO_5.out hb)
   replace HO_7:=mk0 (bR HO_7.out hb)
   replace HO270:=mk0 (bR HO270.out hb)
   replace BK238:=mk0 (kK BK238.out hb)
   replace HB:=mk0 (kS HB.out hb)
   (try clear hb)
   obtain⟨Ao61,co61,eo61⟩:=Kd.R_slice HO270.out
   (first|subst eo61|(injection eo61 with f1_ f2_ f3_;have f4_:=f1_.symm;have f5_:=f3_.symm;clear f1_ f2_ f3_;subst f4_;subst f5_))
   refine hK.out _ _ (ck3 BK238.out) (fun hHeld=>?_)
   clear hK K
   refine norm_ (a':=?_) ?_ ?_
   rotate_left
   ·show Act.put _ (some 60) _ = _
    simp only [Act.put,sA,sO,sS,i64_w,i32_w]
    rfl
   refine one_ (i:=4) (N:=some 61) #[true,true,true,true,true,false] rfl rfl (by kernel_rfl) (by decide) (fun K hK=>?_)
   refine goes_ Try.func17 (by kernel_rfl) rfl #[.slice Ao61 t268.length co61,.agg #[.int .i64 t271,.int .i64 t272,.int .i64 t273]] (by rfl) rfl rfl (by (try simp only [mA,mC,mN]);first|done|rfl|(simp only [List.length_drop,List.length_take];done)|(simp only [List.length_drop,List.length_take];rfl)) ?_
   with_reducible refine (impl_StretchWord.calls kj16 _ _ t268 t271 t272 t273 t274 _ ?side1 ?side2 A44.out).mono ?_
   (case side1=>exact kC (Kd.R_reads' HO270.out).2.2)
   (case side2=>exact (Kd.R_reads' HO270.out).2.1)
   rintro e w62 ⟨v275,rfl,ho0,hb⟩
   refine⟨_,rfl,?_⟩
   have HO276:=mk0 (Kd.R_lower (Kd.R_new' (Kd.R_new' (Kd.R_new' ho0 (Kd.R_lt (rR HO_5.out))) (Kd.R_lt (rR HO_7.out))) (Kd.R_lt (rR HO270.out))) (kZ HB.out))
   replace HO_5:=mk0 (Kd.R_elder' (rR HO_5.out) (Kd.R_base ho0) hb)
   replace HO_7:=mk0 (Kd.R_elder' (rR HO_7.out) (Kd.R_base ho0) hb)
   replace HO270:=mk0 (Kd.R_elder' (rR HO270.out) (Kd.R_base ho0) hb)
   replace BK238:=mk0 (kK BK238.out hb)
   replace HB:=mk0 (kS HB.out hb)
   (try clear hb)
   (try clear ho0)
   refine hK.out _ _ (ck3 BK238.out) (fun hHeld=>?_)
   clear hK K
   refine norm_ (a':=?_) ?_ ?_
   rotate_left
   ·show Act.put _ (some 61) _ = _
    simp only [Act.put,sA,sO,sS,i64_w,i32_w]
    rfl
   refine pure_ (i:=5) (N:=some 11) (v:=?_) (a':=?_) #[true,true,true,true,true,true] rfl rfl (by kernel_rfl) (fun _ _ _ h=>h) (Or.inl ⟨by rfl,?_⟩) ?_ ?_
   rotate_left
   ·intro w'
    go_simp
    with_reducible rfl
   rotate_left
   ·simp only [Act.put,sA,sO,sS,i64_w,i32_w]
    rfl
   refine done_ (by kernel_rfl) ?_
   obtain⟨Ao63,co63,eo63⟩:=Kd.R_slice HO276.out
   subst eo63
   try go_wp2_with (first|((with_reducible refine gate_callee (f:=15) rfl ?_);refine goesL_ (some 64) rfl rfl Try.func15 (by kernel_rfl) rfl #[.slice Ao63 t274.length co63,.slice Ao30 t245.length co30] rfl (by (try simp only [mA,mC,mN]);first|done|rfl|(simp only [List.length_drop,List.length_take];done)|(simp only [List.length_drop,List.length_take];rfl)) ?_;(with_reducible refine (laws_eqByteS.calls kj16 _ _ t274 _ _ t245 true _ ?side1 ?side2 ?side3 ?side4 A45.out).mono ?_);(case side1=>exact kC (Kd.R_reads' HO276.out).2.2);(case side2=>exact (Kd.R_reads' HO276.out).2.1);(case side3=>exact kC (Kd.R_reads' HO_5.out).2.2);(case side4=>exact (Kd.R_reads' HO_5.out).2.1);rintro e w' ⟨rfl,⟨nd,rfl⟩⟩;refine⟨_,rfl,?_⟩)|((with_reducible refine gate_callee (f:=19) rfl ?_);refine goesL_ (some 68) rfl rfl Try.func19 (by kernel_rfl) rfl #[.slice Ao29 t266.length co29,.int .i64 1] rfl (by (try simp only [mA,mC,mN]);first|done|(rw [show t266.length = t254.length from (Kd.R_reads' HO_7.out).1.symm] <;> rfl)|rfl|(simp only [List.length_drop,List.length_take];done)|(simp only [List.length_drop,List.length_take];rfl)) ?_;(with_reducible refine (laws_heldByteS.calls kj16 _ _ t266 1 t278 _ ?side1 ?side2 A47.out).mono ?_);(case side1=>exact kC (Kd.R_reads' HO_7.out).2.2);(case side2=>rw [show t266.length = t254.length from (Kd.R_reads' HO_7.out).1.symm];exact (Kd.R_reads' HO_7.out).2.1);rintro e w' ⟨rfl,⟨nd,rfl⟩⟩;refine⟨_,rfl,?_⟩))
   go_ret
   exact⟨by first|rfl|(simp [errW_none,errW_some] <;> rfl)|(simp [*,errW_none,errW_some] <;> rfl),kB HB.out⟩
/-- The plain statement of laws_FnExactStretchWord. -/
def laws_FnExactStretchWord.Pure : Prop := ∀ (l0 : List Int) (a1_0 : Int) (a1_1 : Int) (a1_2 : Int), (Fv.OkL (Fv.OkI .u8)) l0 → ok24 ((⟨a1_0, a1_1, a1_2⟩ : S24)) → ∃ k, laws_FnExactStretchWord.f k l0 a1_0 a1_1 a1_2 = some true

end Go.Proofs.Ytoinagnieobbpaa.QFnExactStretchWord
