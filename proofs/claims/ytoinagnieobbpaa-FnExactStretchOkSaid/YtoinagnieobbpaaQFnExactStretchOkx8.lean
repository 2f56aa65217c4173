-- A walk, made by walk.py, a program of this session's.
import Derived.Test.YtoinagnieobbpaaQFnExactStretchOkx0
import Derived.Test.YtoinagnieobbpaaQFnExactStretchOkx4
import Derived.Test.YtoinagnieobbpaaQFnExactStretchOkx7
namespace Go.Proofs.Ytoinagnieobbpaa.QFnExactStretchOk
open Go.RowKit Go.Proofs.YtoinagnieobbpaaW.PrintWords Go.Proofs.YtoinagnieobbpaaW.PrintLast Go.Proofs.YtoinagnieobbpaaW.PrintMore
attribute [local go_sem] max2_int min2_int max_two min_two max_three min_three max_four min_four   -- for this text's walks alone
set_option linter.unusedVariables false
set_option linter.unusedSimpArgs false

/-! ### laws_eqByteS: function 15 -/
def laws_eqByteS.l0 : Nat → List Int → List Int → Int → Option (Bool)
 | 0, _, _, _ => none
 | k + 1, x0, x1, x5 => if x5 < (x0.length : Int) then (if 0 ≤ x5 then (if x5 < (x1.length : Int) then (if (rd x0 x5) = (rd x1 x5) then (laws_eqByteS.l0 k x0 x1 (wrap64 (x5 + 1))) else (some false)) else (none)) else (none)) else (some true)
def laws_eqByteS.f (k : Nat) (l0 : List Int) (l1 : List Int) : Option (Bool) := if (l0.length : Int) = (l1.length : Int) then (laws_eqByteS.l0 k l0 l1 0) else (some false)
theorem laws_eqByteS.mono_l : ∀ k, (∀ y0 y1 y2, LeO (laws_eqByteS.l0 k y0 y1 y2) (laws_eqByteS.l0 (k + 1) y0 y1 y2))
 | 0 => fun _ _ _ r h => by simp [laws_eqByteS.l0] at h
 | k + 1 => by
  have ih0 := laws_eqByteS.mono_l k
  ·intro y0 y1 y2
   unfold laws_eqByteS.l0
   repeat' first|(with_reducible first|exact ih0 _ _ _|exact LeO.refl _|exact LeO.none _|refine LeO.ite ?_ ?_|refine LeO.bind ?_ (fun _ => ?_))|exact LeO.none _|refine LeO.ite ?_ ?_|refine LeO.bind ?_ (fun _ => ?_)
theorem laws_eqByteS.mono : ∀ a0 a1 k, LeO (laws_eqByteS.f k a0 a1) (laws_eqByteS.f (k + 1) a0 a1) := by
 intro a0 a1 k
 have ih0 := laws_eqByteS.mono_l k
 unfold laws_eqByteS.f
 repeat' first|(with_reducible first|exact ih0 _ _ _|exact LeO.refl _|exact LeO.none _|refine LeO.ite ?_ ?_|refine LeO.bind ?_ (fun _ => ?_))|exact LeO.none _|refine LeO.ite ?_ ?_|refine LeO.bind ?_ (fun _ => ?_)
set_option maxHeartbeats 8000000 in
set_option maxRecDepth 100000 in
theorem laws_eqByteS.calls (k : Nat) (A0 : Option Addr) (c0 : Nat) (l0 : List Int) (A1 : Option Addr) (c1 : Nat) (l1 : List Int) (r : Bool) (w : World) (hr0 : Kd.C (Kd.int .u8) w A0 l0.length l0) (hc0 : l0.length ≤ c0) (hr1 : Kd.C (Kd.int .u8) w A1 l1.length l1) (hc1 : l1.length ≤ c1) (h : laws_eqByteS.f k l0 l1 = some r) :
  Calls Try.prog 15 #[.slice A0 l0.length c0, .slice A1 l1.length c1] w fun e w' => e = .returned (.bool r) ∧ Drawn0 w w' := by
 have HR0:=mk0 hr0
 have HC0:=mk0 hc0
 clear hr0 hc0
 have HR1:=mk0 hr1
 have HC1:=mk0 hc1
 clear hr1 hc1
 have H:(if (l0.length:Int) = (l1.length:Int) then (laws_eqByteS.l0 k l0 l1 0) else (some false)) = some r:=h
 clear h
 by_cases c3:(l0.length:Int) = (l1.length:Int)
 ·rw [if_pos c3] at H
  have c3b0:((l0.length:Int) == (l1.length:Int)) = true:=beq_iff_eq.mpr c3
  have c3b1:((l0.length:Int) != (l1.length:Int)) = false:=bne_eq_false_iff_eq.mpr c3
  have c3b2:(l0.length == l1.length) = true:=by first|simpa using c3|(simp at c3 ⊢;omega)
  clear c3
  have H':=mk0 H
  clear H
  go_enter Try.func15,Try.ntmps15
  go_wp2
  repeat (go_quiet (fail);try go_wp2)
  go_loopg [5] k (fun kq v5 w'=>∃ (x5_1:Int),v5 = .int .i64 x5_1 ∧ Aside0 (laws_eqByteS.l0 kq l0 l1 x5_1 = some r) ∧ Aside0 (kq ≤ k) ∧ Drawn0 w w')
  case atStart=>exact⟨(0),(by first|rfl|(simp;done)|(simp [*];done)),H',⟨Nat.le_refl _⟩,by repeat (first|exact Drawn0.refl _|apply Drawn0.step)⟩
  case round =>
   clear H'
   try clear c1
   try clear p2
   try clear c3
   try clear c3b0
   try clear c3b1
   try clear c3b2
   obtain⟨x5_1,rfl,HA,HK1,⟨m1,rfl⟩⟩:=hrel
   cases gk with
   | zero=>exact absurd HA.out (by simp [laws_eqByteS.l0])
   | succ k1 =>
    have H:=HA.out
    clear HA
    simp only [laws_eqByteS.l0] at H
    by_cases c4:x5_1 < (l0.length:Int)
    ·rw [if_pos c4] at H
     have c4b0:decide (x5_1 < (l0.length:Int)) = true:=decide_eq_true c4
     clear c4
     by_cases c5:0 ≤ x5_1
     ·rw [if_pos c5] at H
      have c5b0:decide (0 ≤ x5_1) = true:=decide_eq_true c5
      clear c5
      by_cases c6:x5_1 < (l1.length:Int)
      ·rw [if_pos c6] at H
       have c6b0:decide (x5_1 < (l1.length:Int)) = true:=decide_eq_true c6
       clear c6
       by_cases c7:(rd l0 x5_1) = (rd l1 x5_1)
       ·rw [if_pos c7] at H
        have c7b0:((rd l0 x5_1) == (rd l1 x5_1)) = true:=beq_iff_eq.mpr c7
        have c7b1:((rd l0 x5_1) != (rd l1 x5_1)) = false:=bne_eq_false_iff_eq.mpr c7
        clear c7
        have H':=mk0 H
        clear H
        have p210:0 ≤ (x5_1:Int):=of_decide_eq_true (by first|(with_reducible assumption)|assumption)
        have q210:x5_1 < (l0.length:Int):=of_decide_eq_true (by first|(with_reducible assumption)|assumption)
        obtain⟨ad210,e210,hx210_0⟩:=Kd.at_int HR0.out x5_1 p210 q210
        cases e210
        replace p210:=eq_true p210
        replace q210:=eq_true q210
        have p211:0 ≤ (x5_1:Int):=of_decide_eq_true (by first|(with_reducible assumption)|assumption)
        have q211:x5_1 < (l1.length:Int):=of_decide_eq_true (by first|(with_reducible assumption)|assumption)
        obtain⟨ad211,e211,hx211_0⟩:=Kd.at_int HR1.out x5_1 p211 q211
        cases e211
        replace p211:=eq_true p211
        replace q211:=eq_true q211
        go_wp2
        repeat (go_quiet (fail);try go_wp2)
        go_roundg k1
        case measure=>have:=HK1.out;omega
        case rel=>exact⟨(wrap64 (x5_1 + 1)),(by first|rfl|(simp;done)|(simp [*];done)),H',⟨by have:=HK1.out;omega⟩,by repeat (first|exact Drawn0.refl _|apply Drawn0.step)⟩
       ·rw [if_neg c7] at H
        have c7b0:((rd l0 x5_1) == (rd l1 x5_1)) = false:=beq_eq_false_iff_ne.mpr c7
        have c7b1:((rd l0 x5_1) != (rd l1 x5_1)) = true:=bne_iff_ne.mpr c7
        obtain rfl:=Option.some.inj H
        have p210:0 ≤ (x5_1:Int):=of_decide_eq_true (by first|(with_reducible assumption)|assumption)
        have q210:x5_1 < (l0.length:Int):=of_decide_eq_true (by first|(with_reducible assumption)|assumption)
        obtain⟨ad210,e210,hx210_0⟩:=Kd.at_int HR0.out x5_1 p210 q210
        cases e210
        replace p210:=eq_true p210
        replace q210:=eq_true q210
        have p211:0 ≤ (x5_1:Int):=of_decide_eq_true (by first|(with_reducible assumption)|assumption)
        have q211:x5_1 < (l1.length:Int):=of_decide_eq_true (by first|(with_reducible assumption)|assumption)
        obtain⟨ad211,e211,hx211_0⟩:=Kd.at_int HR1.out x5_1 p211 q211
        cases e211
        replace p211:=eq_true p211
        replace q211:=eq_true q211
        go_wp2
        repeat (go_quiet (fail);try go_wp2)
        go_ret
        exact⟨by first|rfl|(simp;done)|(simp [*];done),by repeat (first|exact Drawn0.refl _|apply Drawn0.step)⟩
      ·rw [if_neg c6] at H
       exact absurd H (by simp)
     ·rw [if_neg c5] at H
      exact absurd H (by simp)
    ·rw [if_neg c4] at H
     have c4b0:decide (x5_1 < (l0.length:Int)) = false:=decide_eq_false c4
     clear c4
     obtain rfl:=Option.some.inj H
     go_wp2
     repeat (go_quiet (fail);try go_wp2)
     go_ret
     exact⟨by first|rfl|(simp;done)|(simp [*];done),by repeat (first|exact Drawn0.refl _|apply Drawn0.step)⟩
 ·rw [if_neg c3] at H
  have c3b0:((l0.length:Int) == (l1.length:Int)) = false:=beq_eq_false_iff_ne.mpr c3
  have c3b1:((l0.length:Int) != (l1.length:Int)) = true:=bne_iff_ne.mpr c3
  have c3b2:(l0.length == l1.length) = false:=by first|simpa using c3|(simp at c3 ⊢;omega)
  obtain rfl:=Option.some.inj H
  go_enter Try.func15,Try.ntmps15
  go_wp2
  repeat (go_quiet (fail);try go_wp2)
  go_ret
  exact⟨by first|rfl|(simp;done)|(simp [*];done),by repeat (first|exact Drawn0.refl _|apply Drawn0.step)⟩

/-! ### laws_FnExactStretchOk: function 3 -/
def laws_FnExactStretchOk.f (k : Nat) (l0 : List Int) (a1_0 : Int) (a1_1 : Int) (a1_2 : Int) : Option (Bool) := if (l0.length : Int) > 1048576 then (some true) else ((laws_toByteS.f k l0).bind fun t213 => ((laws_toStretch.f a1_0 a1_1 a1_2).bind fun bt216 => ((spec_StretchOk.f k t213 bt216.1 bt216.2.1 bt216.2.2).bind fun t219 => ((laws_toByteS.f k l0).bind fun t220 => ((laws_toStretch.f a1_0 a1_1 a1_2).bind fun bt223 => ((impl_StretchOk.f k t220 bt223.1 bt223.2.1 bt223.2.2).bind fun t226 => (if (t226 != t219) = true then (some false) else ((laws_toByteS.f k l0).bind fun t227 => ((laws_eqByteS.f k t220 t227).bind fun t230 => (if t230 = true then (some true) else (some false)))))))))))
theorem laws_FnExactStretchOk.mono : ∀ a0 a1 a2 a3 k, LeO (laws_FnExactStretchOk.f k a0 a1 a2 a3) (laws_FnExactStretchOk.f (k + 1) a0 a1 a2 a3) := by
 intro a0 a1 a2 a3 k
 unfold laws_FnExactStretchOk.f
 repeat' first|(with_reducible first|exact impl_StretchOk.mono _ _ _ _ _|exact laws_eqByteS.mono _ _ _|exact laws_toByteS.mono _ _|exact spec_StretchOk.mono _ _ _ _ _|exact LeO.refl _|exact LeO.none _|refine LeO.ite ?_ ?_|refine LeO.bind ?_ (fun _ => ?_))|exact LeO.none _|refine LeO.ite ?_ ?_|refine LeO.bind ?_ (fun _ => ?_)
set_option maxHeartbeats 8000000 in
set_option maxRecDepth 100000 in
theorem laws_FnExactStretchOk.calls (k : Nat) (A0 : Option Addr) (c0 : Nat) (l0 : List Int) (a1_0 : Int) (a1_1 : Int) (a1_2 : Int) (r : Bool) (w : World) (hr0 : Kd.C (Kd.int .u8) w A0 l0.length l0) (hc0 : l0.length ≤ c0) (h : laws_FnExactStretchOk.f k l0 a1_0 a1_1 a1_2 = some r) :
  Calls Try.prog 3 #[.slice A0 l0.length c0, .agg #[.int .i64 a1_0, .int .i64 a1_1, .int .i64 a1_2]] w fun e w' => e = .returned (.bool r) ∧ Below w.heap.size w w' := by
 have hu24:=Try.underlying24
 have HR0:=mk0 hr0
 have HC0:=mk0 hc0
 clear hr0 hc0
 have HB:=mk0 (Below.refl w.heap.size w)
 have H:(if (l0.length:Int) > 1048576 then (some true) else ((laws_toByteS.f k l0).bind fun t213=>((laws_toStretch.f a1_0 a1_1 a1_2).bind fun bt216=>((spec_StretchOk.f k t213 bt216.1 bt216.2.1 bt216.2.2).bind fun t219=>((laws_toByteS.f k l0).bind fun t220=>((laws_toStretch.f a1_0 a1_1 a1_2).bind fun bt223=>((impl_StretchOk.f k t220 bt223.1 bt223.2.1 bt223.2.2).bind fun t226=>(if (t226 != t219) = true then (some false) else ((laws_toByteS.f k l0).bind fun t227=>((laws_eqByteS.f k t220 t227).bind fun t230=>(if t230 = true then (some true) else (some false)))))))))))) = some r:=h
 clear h
 by_cases c3:(l0.length:Int) > 1048576
 ·rw [if_pos c3] at H
  have c3b0:decide (1048576 < (l0.length:Int)) = true:=decide_eq_true c3
  have c3b1:decide (1048576 < l0.length) = true:=decide_eq_true (by omega)
  clear c3
  obtain rfl:=Option.some.inj H
  go_enter Try.func3,Try.ntmps3
  go_wp2_with (first|((with_reducible refine gate_dst (N:=3) rfl ?_);refine box_event ?hg (N:=3) ?hd (cs:=#[.int .i64 a1_0,.int .i64 a1_1,.int .i64 a1_2]) (t:=24) ?hr ?_;(case hd=>rfl);(case hg=>rfl);(case hr=>first|(go_simp;done)|(go_simp;rfl));intro gb212 hg w4 hbox hb;have BK212:=mk0 (hbox);have GW212:=mk0 ((by rw [hg];exact (kZ HB.out):w.heap.size ≤ gb212));have GE212:=mk0 ((by rw [hg];exact (kZ HB.out):w.heap.size ≤ gb212));replace HB:=mk0 (kS HB.out hb);clear hb hbox hg))
  go_ret
  exact⟨by first|rfl|(simp [errW_none,errW_some] <;> rfl)|(simp [*,errW_none,errW_some] <;> rfl),kB HB.out⟩
 rw [if_neg c3] at H
 have c3b0:decide (1048576 < (l0.length:Int)) = false:=decide_eq_false c3
 have c3b1:decide (1048576 < l0.length) = false:=decide_eq_false (by omega)
 clear c3
 replace H:=Option.bind_eq_some_iff.mp H
 obtain⟨t213,A50,H⟩:=H
 replace H:((laws_toStretch.f a1_0 a1_1 a1_2).bind fun bt216=>((spec_StretchOk.f k t213 bt216.1 bt216.2.1 bt216.2.2).bind fun t219=>((laws_toByteS.f k l0).bind fun t220=>((laws_toStretch.f a1_0 a1_1 a1_2).bind fun bt223=>((impl_StretchOk.f k t220 bt223.1 bt223.2.1 bt223.2.2).bind fun t226=>(if (t226 != t219) = true then (some false) else ((laws_toByteS.f k l0).bind fun t227=>((laws_eqByteS.f k t220 t227).bind fun t230=>(if t230 = true then (some true) else (some false)))))))))) = some r:=H
 have A5:=mk0 A50
 clear A50
 replace H:=Option.bind_eq_some_iff.mp H
 obtain⟨⟨t216,t217,t218⟩,A60,H⟩:=H
 replace H:((spec_StretchOk.f k t213 t216 t217 t218).bind fun t219=>((laws_toByteS.f k l0).bind fun t220=>((laws_toStretch.f a1_0 a1_1 a1_2).bind fun bt223=>((impl_StretchOk.f k t220 bt223.1 bt223.2.1 bt223.2.2).bind fun t226=>(if (t226 != t219) = true then (some false) else ((laws_toByteS.f k l0).bind fun t227=>((laws_eqByteS.f k t220 t227).bind fun t230=>(if t230 = true then (some true) else (some false))))))))) = some r:=H
 have A6:=mk0 A60
 clear A60
 replace H:=Option.bind_eq_some_iff.mp H
 obtain⟨t219,A70,H⟩:=H
 replace H:((laws_toByteS.f k l0).bind fun t220=>((laws_toStretch.f a1_0 a1_1 a1_2).bind fun bt223=>((impl_StretchOk.f k t220 bt223.1 bt223.2.1 bt223.2.2).bind fun t226=>(if (t226 != t219) = true then (some false) else ((laws_toByteS.f k l0).bind fun t227=>((laws_eqByteS.f k t220 t227).bind fun t230=>(if t230 = true then (some true) else (some false)))))))) = some r:=H
 have A7:=mk0 A70
 clear A70
 replace H:=Option.bind_eq_some_iff.mp H
 obtain⟨t220,A80,H⟩:=H
 replace H:((laws_toStretch.f a1_0 a1_1 a1_2).bind fun bt223=>((impl_StretchOk.f k t220 bt223.1 bt223.2.1 bt223.2.2).bind fun t226=>(if (t226 != t219) = true then (some false) else ((laws_toByteS.f k l0).bind fun t227=>((laws_eqByteS.f k t220 t227).bind fun t230=>(if t230 = true then (some true) else (some false))))))) = some r:=H
 have A8:=mk0 A80
 clear A80
 replace H:=Option.bind_eq_some_iff.mp H
 obtain⟨⟨t223,t224,t225⟩,A90,H⟩:=H
 replace H:((impl_StretchOk.f k t220 t223 t224 t225).bind fun t226=>(if (t226 != t219) = true then (some false) else ((laws_toByteS.f k l0).bind fun t227=>((laws_eqByteS.f k t220 t227).bind fun t230=>(if t230 = true then (some true) else (some false)))))) = some r:=H
 have A9:=mk0 A90
 clear A90
 replace H:=Option.bind_eq_some_iff.mp H
 obtain⟨t226,A100,H⟩:=H
 replace H:(if (t226 != t219) = true then (some false) else ((laws_toByteS.f k l0).bind fun t227=>((laws_eqByteS.f k t220 t227).bind fun t230=>(if t230 = true then (some true) else (some false))))) = some r:=H
 have A10:=mk0 A100
 clear A100
 by_cases c11:(t226 != t219) = true
 ·rw [if_pos c11] at H
  have c11b0:(t226 != t219) = true:=c11
  (try (have c11b1:decide (t226 = t219) = false:=by simpa using c11))
  (try (have c11b2:(t226 == t219) = false:=by simpa using c11))
  (try (have c11b3:¬ (t226 = t219):=by simpa using c11))
  clear c11
  obtain rfl:=Option.some.inj H
  go_enter Try.func3,Try.ntmps3
  try go_wp2_with (first|((with_reducible refine gate_dst (N:=3) rfl ?_);refine box_event ?hg (N:=3) ?hd (cs:=#[.int .i64 a1_0,.int .i64 a1_1,.int .i64 a1_2]) (t:=24) ?hr ?_;(case hd=>rfl);(case hg=>rfl);(case hr=>first|(go_simp;done)|(go_simp;rfl));intro gb212 hg w12 hbox hb;have BK212:=mk0 (hbox);have GW212:=mk0 ((by rw [hg];exact (kZ HB.out):w.heap.size ≤ gb212));have GE212:=mk0 ((by rw [hg];exact (kZ HB.out):w.heap.size ≤ gb212));replace HB:=mk0 (kS HB.out hb);clear hb hbox hg))
  replace BK212:=mk0 (dB BK212.out)
  replace HB:=mk0 (dZ HB.out)
  refine start_ (n:=6) (S:=fun w'=>w'.cell? ⟨gb212,0,none⟩ = some (.int .i64 a1_0) ∧ w'.cell? ⟨gb212,1,none⟩ = some (.int .i64 a1_1) ∧ w'.cell? ⟨gb212,2,none⟩ = some (.int .i64 a1_2)) (ds:=[]) #[false,false,false,false,false,false] (by kernel_rfl) rfl rfl (ck3 BK212.out) (fun hHeld=>?_)
  generalize w12.drew = w13 at BK212 HB hHeld ⊢
  refine pure_ (i:=0) (N:=some 11) (v:=?_) (a':=?_) #[true,false,false,false,false,false] rfl rfl (by kernel_rfl) (fun _ _ _ h=>h) (Or.inl ⟨by rfl,?_⟩) ?_ ?_
  rotate_left
  ·intro w'
   go_simp
   with_reducible rfl
  rotate_left
  ·simp only [Act.put,sA,sO,sS,i64_w,i32_w]
   rfl
  refine take_ (i:=2) (N:=some 13) (v:=?_) (a':=?_) #[true,false,true,false,false,false] rfl rfl (by kernel_rfl) (fun _ _ _ h=>h) (Or.inl ⟨by rfl,?_⟩) hHeld ?_ ?_
  rotate_left
  ·rintro w' ⟨s0,s1,s2⟩
   go_simp
   with_reducible rfl
  rotate_left
  ·simp only [Act.put,sA,sO,sS,i64_w,i32_w]
   rfl
  refine one_ (i:=1) (N:=some 12) #[true,true,true,false,false,false] rfl rfl (by kernel_rfl) (by decide) (fun K hK=>?_)
  refine goes_ Try.func12 (by kernel_rfl) rfl #[.slice A0 l0.length c0] (by rfl) rfl rfl (by (try simp only [mA,mC,mN]);first|done|rfl|(simp only [List.length_drop,List.length_take];done)|(simp only [List.length_drop,List.length_take];rfl)) ?_
  with_reducible refine (laws_toByteS.calls k _ _ l0 t213 _ ?side1 ?side2 A5.out).mono ?_
  (case side1=>exact kC (Kd.C_below HR0.out HB.out))
  (case side2=>exact HC0.out)
  rintro e w14 ⟨v214,rfl,ho0,hb⟩
  refine⟨_,rfl,?_⟩
  have HO215:=mk0 (Kd.R_lower ho0 (kZ HB.out))
  replace BK212:=mk0 (kK BK212.out hb)
  replace HB:=mk0 (kS HB.out hb)
  (try clear hb)
  (try clear ho0)
  refine hK.out _ _ (ck3 BK212.out) (fun hHeld=>?_)
  clear hK K
  refine norm_ (a':=?_) ?_ ?_
  rotate_left
  ·show Act.put _ (some 12) _ = _
   simp only [Act.put,sA,sO,sS,i64_w,i32_w]
   rfl
  refine one_ (i:=3) (N:=some 14) #[true,true,true,true,false,false] rfl rfl (by kernel_rfl) (by decide) (fun K hK=>?_)
  refine goes_ Try.func13 (by kernel_rfl) rfl #[.agg #[.int .i64 a1_0,.int .i64 a1_1,.int .i64 a1_2]] (by rfl) rfl rfl (by (try simp only [mA,mC,mN]);first|done|rfl|(simp only [List.length_drop,List.length_take];done)|(simp only [List.length_drop,List.length_take];rfl)) ?_
  with_reducible refine (laws_toStretch.calls a1_0 a1_1 a1_2 t216 t217 t218 _ A6.out).mono ?_
  rintro e w15 ⟨rfl,hb⟩
  refine⟨_,rfl,?_⟩
  replace HO215:=mk0 (bR HO215.out hb)
  replace BK212:=mk0 (kK BK212.out hb)
  replace HB:=mk0 (kS HB.out hb)
  (try clear hb)
  obtain⟨Ao16,co16,eo16⟩:=Kd.R_slice HO215.out
  (first|subst eo16|(injection eo16 with f1_ f2_ f3_;have f4_:=f1_.symm;have f5_:=f3_.symm;clear f1_ f2_ f3_;subst f4_;subst f5_))
  refine hK.out _ _ (ck3 BK212.out) (fun hHeld=>?_)
  clear hK K
  refine norm_ (a':=?_) ?_ ?_
  rotate_left
  ·show Act.put _ (some 14) _ = _
   simp only [Act.put,sA,sO,sS,i64_w,i32_w]
   rfl
  refine one_ (i:=4) (N:=some 15) #[true,true,true,true,true,false] rfl rfl (by kernel_rfl) (by decide) (fun K hK=>?_)
  refine goes_ Try.func11 (by kernel_rfl) rfl #[.slice Ao16 t213.length co16,.agg #[.int .i64 t216,.int .i64 t217,.int .i64 t218]] (by rfl) rfl rfl (by (try simp only [mA,mC,mN]);first|done|rfl|(simp only [List.length_drop,List.length_take];done)|(simp only [List.length_drop,List.length_take];rfl)) ?_
  with_reducible refine (spec_StretchOk.calls k _ _ t213 t216 t217 t218 t219 _ ?side1 ?side2 A7.out).mono ?_
  (case side1=>exact kC (Kd.R_reads' HO215.out).2.2)
  (case side2=>exact (Kd.R_reads' HO215.out).2.1)
  rintro e w17 ⟨rfl,hb⟩
  refine⟨_,rfl,?_⟩
  replace HO215:=mk0 (bR HO215.out hb)
  replace BK212:=mk0 (kK BK212.out hb)
  replace HB:=mk0 (kS HB.out hb)
  (try clear hb)
  refine hK.out _ _ (ck3 BK212.out) (fun hHeld=>?_)
  clear hK K
  refine norm_ (a':=?_) ?_ ?_
  rotate_left
  ·show Act.put _ (some 15) _ = _
   simp only [Act.put,sA,sO,sS,i64_w,i32_w]
   rfl
  refine pure_ (i:=5) (N:=some 5) (v:=?_) (a':=?_) #[true,true,true,true,true,true] rfl rfl (by kernel_rfl) (fun _ _ _ h=>h) (Or.inl ⟨by rfl,?_⟩) ?_ ?_
  rotate_left
  ·intro w'
   go_simp
   with_reducible rfl
  rotate_left
  ·simp only [Act.put,sA,sO,sS,i64_w,i32_w]
   rfl
  refine done_ (by kernel_rfl) ?_
  try go_wp2_with (first|((with_reducible refine gate_callee (f:=12) rfl ?_);refine goesL_ (some 17) rfl rfl Try.func12 (by kernel_rfl) rfl #[.slice A0 l0.length c0] rfl (by (try simp only [mA,mC,mN]);first|done|rfl|(simp only [List.length_drop,List.length_take];done)|(simp only [List.length_drop,List.length_take];rfl)) ?_;(with_reducible refine (laws_toByteS.calls k _ _ l0 t220 _ ?side1 ?side2 A8.out).mono ?_);(case side1=>exact kC (Kd.C_below HR0.out HB.out));(case side2=>exact HC0.out);rintro e w18 ⟨v221,rfl,ho0,hb⟩;refine⟨_,rfl,?_⟩;have HO222:=mk0 (Kd.R_lower (Kd.R_new' ho0 (Kd.R_lt (rR HO215.out))) (kZ HB.out));replace HO215:=mk0 (Kd.R_elder' (rR HO215.out) (Kd.R_base ho0) hb);replace BK212:=mk0 (kK BK212.out hb);replace HB:=mk0 (kS HB.out hb);(try clear hb);(try clear ho0);obtain⟨hcz19_0,hcz19_1,hcz19_2,hfz19_0,hfz19_1,hfz19_2⟩:=cz3 BK212.out)|((with_reducible refine gate_callee (f:=13) rfl ?_);refine goesL_ (some 20) rfl rfl Try.func13 (by kernel_rfl) rfl #[.agg #[.int .i64 a1_0,.int .i64 a1_1,.int .i64 a1_2]] rfl (by (try simp only [mA,mC,mN]);first|done|rfl|(simp only [List.length_drop,List.length_take];done)|(simp only [List.length_drop,List.length_take];rfl)) ?_;(with_reducible refine (laws_toStretch.calls a1_0 a1_1 a1_2 t223 t224 t225 _ A9.out).mono ?_);rintro e w20 ⟨rfl,hb⟩;refine⟨_,rfl,?_⟩;replace HO215:=mk0 (bR HO215.out hb);replace HO222:=mk0 (bR HO222.out hb);replace BK212:=mk0 (kK BK212.out hb);replace HB:=mk0 (kS HB.out hb);(try clear hb);obtain⟨Ao21,co21,eo21⟩:=Kd.R_slice HO222.out;subst eo21)|((with_reducible refine gate_callee (f:=14) rfl ?_);refine goesL_ (some 21) rfl rfl Try.func14 (by kernel_rfl) rfl #[.slice Ao21 t220.length co21,.agg #[.int .i64 t223,.int .i64 t224,.int .i64 t225]] rfl (by (try simp only [mA,mC,mN]);first|done|rfl|(simp only [List.length_drop,List.length_take];done)|(simp only [List.length_drop,List.length_take];rfl)) ?_;(with_reducible refine (impl_StretchOk.calls k _ _ t220 t223 t224 t225 t226 _ ?side1 ?side2 A10.out).mono ?_);(case side1=>exact kC (Kd.R_reads' HO222.out).2.2);(case side2=>exact (Kd.R_reads' HO222.out).2.1);rintro e w22 ⟨rfl,hb⟩;refine⟨_,rfl,?_⟩;replace HO215:=mk0 (bR HO215.out hb);replace HO222:=mk0 (bR HO222.out hb);replace BK212:=mk0 (kK BK212.out hb);replace HB:=mk0 (kS HB.out hb);(try clear hb)))
  go_ret
  exact⟨by first|rfl|(simp [errW_none,errW_some] <;> rfl)|(simp [*,errW_none,errW_some] <;> rfl),kB HB.out⟩
 rw [if_neg c11] at H
 have c11b0:(t226 != t219) = false:=by simpa using c11
 (try (have c11b1:decide (t226 = t219) = true:=by simpa using c11))
 (try (have c11b2:(t226 == t219) = true:=by simpa using c11))
 clear c11
 replace H:=Option.bind_eq_some_iff.mp H
 obtain⟨t227,A230,H⟩:=H
 replace H:((laws_eqByteS.f k t220 t227).bind fun t230=>(if t230 = true then (some true) else (some false))) = some r:=H
 have A23:=mk0 A230
 clear A230
 replace H:=Option.bind_eq_some_iff.mp H
 obtain⟨t230,A240,H⟩:=H
 replace H:(if t230 = true then (some true) else (some false)) = some r:=H
 have A24:=mk0 A240
 clear A240
 by_cases c25:t230 = true
 ·subst c25
  have H1:(some true) = some r:=by rw [if_pos rfl] at H;exact H
  clear H
  have H:=H1
  clear H1
  obtain rfl:=Option.some.inj H
  go_enter Try.func3,Try.ntmps3
  try go_wp2_with (first|((with_reducible refine gate_dst (N:=3) rfl ?_);refine box_event ?hg (N:=3) ?hd (cs:=#[.int .i64 a1_0,.int .i64 a1_1,.int .i64 a1_2]) (t:=24) ?hr ?_;(case hd=>rfl);(case hg=>rfl);(case hr=>first|(go_simp;done)|(go_simp;rfl));intro gb212 hg w26 hbox hb;have BK212:=mk0 (hbox);have GW212:=mk0 ((by rw [hg];exact (kZ HB.out):w.heap.size ≤ gb212));have GE212:=mk0 ((by rw [hg];exact (kZ HB.out):w.heap.size ≤ gb212));replace HB:=mk0 (kS HB.out hb);clear hb hbox hg))
  replace BK212:=mk0 (dB BK212.out)
  replace HB:=mk0 (dZ HB.out)
  refine start_ (n:=6) (S:=fun w'=>w'.cell? ⟨gb212,0,none⟩ = some (.int .i64 a1_0) ∧ w'.cell? ⟨gb212,1,none⟩ = some (.int .i64 a1_1) ∧ w'.cell? ⟨gb212,2,none⟩ = some (.int .i64 a1_2)) (ds:=[]) #[false,false,false,false,false,false] (by kernel_rfl) rfl rfl (ck3 BK212.out) (fun hHeld=>?_)
  generalize w26.drew = w27 at BK212 HB hHeld ⊢
  refine pure_ (i:=0) (N:=some 11) (v:=?_) (a':=?_) #[true,false,false,false,false,false] rfl rfl (by kernel_rfl) (fun _ _ _ h=>h) (Or.inl ⟨by rfl,?_⟩) ?_ ?_
  rotate_left
  ·intro w'
   go_simp
   with_reducible rfl
  rotate_left
  ·simp only [Act.put,sA,sO,sS,i64_w,i32_w]
   rfl
  refine take_ (i:=2) (N:=some 13) (v:=?_) (a':=?_) #[true,false,true,false,false,false] rfl rfl (by kernel_rfl) (fun _ _ _ h=>h) (Or.inl ⟨by rfl,?_⟩) hHeld ?_ ?_
  rotate_left
  ·rintro w' ⟨s0,s1,s2⟩
   go_simp
   with_reducible rfl
  rotate_left
  ·simp only [Act.put,sA,sO,sS,i64_w,i32_w]
   rfl
  refine one_ (i:=1) (N:=some 12) #[true,true,true,false,false,false] rfl rfl (by kernel_rfl) (by decide) (fun K hK=>?_)
  refine goes_ Try.func12 (by kernel_rfl) rfl #[.slice A0 l0.length c0] (by rfl) rfl rfl (by (try simp only [mA,mC,mN]);first|done|rfl|(simp only [List.length_drop,List.length_take];done)|(simp only [List.length_drop,List.length_take];rfl)) ?_
  with_reducible refine (laws_toByteS.calls k _ _ l0 t213 _ ?side1 ?side2 A5.out).mono ?_
  (case side1=>exact kC (Kd.C_below HR0.out HB.out))
  (case side2=>exact HC0.out)
  rintro e w28 ⟨v214,rfl,ho0,hb⟩
  refine⟨_,rfl,?_⟩
  have HO215:=mk0 (Kd.R_lower ho0 (kZ HB.out))
  replace BK212:=mk0 (kK BK212.out hb)
  replace HB:=mk0 (kS HB.out hb)
  (try clear hb)
  (try clear ho0)
  refine hK.out _ _ (ck3 BK212.out) (fun hHeld=>?_)
  clear hK K
  refine norm_ (a':=?_) ?_ ?_
  rotate_left
  ·show Act.put _ (some 12) _ = _
   simp only [Act.put,sA,sO,sS,i64_w,i32_w]
   rfl
  refine one_ (i:=3) (N:=some 14) #[true,true,true,true,false,false] rfl rfl (by kernel_rfl) (by decide) (fun K hK=>?_)
  refine goes_ Try.func13 (by kernel_rfl) rfl #[.agg #[.int .i64 a1_0,.int .i64 a1_1,.int .i64 a1_2]] (by rfl) rfl rfl (by (try simp only [mA,mC,mN]);first|done|rfl|(simp only [List.length_drop,List.length_take];done)|(simp only [List.length_drop,List.length_take];rfl)) ?_
  with_reducible refine (laws_toStretch.calls a1_0 a1_1 a1_2 t216 t217 t218 _ A6.out).mono ?_
  rintro e w29 ⟨rfl,hb⟩
  refine⟨_,rfl,?_⟩
  replace HO215:=mk0 (bR HO215.out hb)
  replace BK212:=mk0 (kK BK212.out hb)
  replace HB:=mk0 (kS HB.out hb)
  (try clear hb)
  obtain⟨Ao30,co30,eo30⟩:=Kd.R_slice HO215.out
  (first|subst eo30|(injection eo30 with f1_ f2_ f3_;have f4_:=f1_.symm;have f5_:=f3_.symm;clear f1_ f2_ f3_;subst f4_;subst f5_))
  refine hK.out _ _ (ck3 BK212.out) (fun hHeld=>?_)
  clear hK K
  refine norm_ (a':=?_) ?_ ?_
  rotate_left
  ·show Act.put _ (some 14) _ = _
   simp only [Act.put,sA,sO,sS,i64_w,i32_w]
   rfl
  refine one_ (i:=4) (N:=some 15) #[true,true,true,true,true,false] rfl rfl (by kernel_rfl) (by decide) (fun K hK=>?_)
  refine goes_ Try.func11 (by kernel_rfl) rfl #[.slice Ao30 t213.length co30,.agg #[.int .i64 t216,.int .i64 t217,.int .i64 t218]] (by rfl) rfl rfl (by (try simp only [mA,mC,mN]);first|done|rfl|(simp only [List.length_drop,List.length_take];done)|(simp only [List.length_drop,List.length_take];rfl)) ?_
  with_reducible refine (spec_StretchOk.calls k _ _ t213 t216 t217 t218 t219 _ ?side1 ?side2 A7.out).mono ?_
  (case side1=>exact kC (Kd.R_reads' HO215.out).2.2)
  (case side2=>exact (Kd.R_reads' HO215.out).2.1)
  rintro e w31 ⟨rfl,hb⟩
  refine⟨_,rfl,?_⟩
  replace HO215:=mk0 (bR HO215.out hb)
  replace BK212:=mk0 (kK BK212.out hb)
  replace HB:=mk0 (kS HB.out hb)
  (try clear hb)
  refine hK.out _ _ (ck3 BK212.out) (fun hHeld=>?_)
  clear hK K
  refine norm_ (a':=?_) ?_ ?_
  rotate_left
  ·show Act.put _ (some 15) _ = _
   simp only [Act.put,sA,sO,sS,i64_w,i32_w]
   rfl
  refine pure_ (i:=5) (N:=some 5) (v:=?_) (a':=?_) #[true,true,true,true,true,true] rfl rfl (by kernel_rfl) (fun _ _ _ h=>h) (Or.inl ⟨by rfl,?_⟩) ?_ ?_
  rotate_left
  ·intro w'
   go_simp
   with_reducible rfl
  rotate_left
  ·simp only [Act.put,sA,sO,sS,i64_w,i32_w]
   rfl
  refine done_ (by kernel_rfl) ?_
  try go_wp2_with (first|((with_reducible refine gate_callee (f:=12) rfl ?_);refine goesL_ (some 17) rfl rfl Try.func12 (by kernel_rfl) rfl #[.slice A0 l0.length c0] rfl (by (try simp only [mA,mC,mN]);first|done|rfl|(simp only [List.length_drop,List.length_take];done)|(simp only [List.length_drop,List.length_take];rfl)) ?_;(with_reducible refine (laws_toByteS.calls k _ _ l0 t220 _ ?side1 ?side2 A8.out).mono ?_);(case side1=>exact kC (Kd.C_below HR0.out HB.out));(case side2=>exact HC0.out);rintro e w32 ⟨v221,rfl,ho0,hb⟩;refine⟨_,rfl,?_⟩;have HO222:=mk0 (Kd.R_lower (Kd.R_new' ho0 (Kd.R_lt (rR HO215.out))) (kZ HB.out));replace HO215:=mk0 (Kd.R_elder' (rR HO215.out) (Kd.R_base ho0) hb);replace BK212:=mk0 (kK BK212.out hb);replace HB:=mk0 (kS HB.out hb);(try clear hb);(try clear ho0);obtain⟨hcz33_0,hcz33_1,hcz33_2,hfz33_0,hfz33_1,hfz33_2⟩:=cz3 BK212.out)|((with_reducible refine gate_callee (f:=13) rfl ?_);refine goesL_ (some 20) rfl rfl Try.func13 (by kernel_rfl) rfl #[.agg #[.int .i64 a1_0,.int .i64 a1_1,.int .i64 a1_2]] rfl (by (try simp only [mA,mC,mN]);first|done|rfl|(simp only [List.length_drop,List.length_take];done)|(simp only [List.length_drop,List.length_take];rfl)) ?_;(with_reducible refine (laws_toStretch.calls a1_0 a1_1 a1_2 t223 t224 t225 _ A9.out).mono ?_);rintro e w34 ⟨rfl,hb⟩;refine⟨_,rfl,?_⟩;replace HO215:=mk0 (bR HO215.out hb);replace HO222:=mk0 (bR HO222.out hb);replace BK212:=mk0 (kK BK212.out hb);replace HB:=mk0 (kS HB.out hb);(try clear hb);obtain⟨Ao35,co35,eo35⟩:=Kd.R_slice HO222.out;subst eo35)|((with_reducible refine gate_callee (f:=14) rfl ?_);refine goesL_ (some 21) rfl rfl Try.func14 (by kernel_rfl) rfl #[.slice Ao35 t220.length co35,.agg #[.int .i64 t223,.int .i64 t224,.int .i64 t225]] rfl (by (try simp only [mA,mC,mN]);first|done|rfl|(simp only [List.length_drop,List.length_take];done)|(simp only [List.length_drop,List.length_take];rfl)) ?_;(with_reducible refine (impl_StretchOk.calls k _ _ t220 t223 t224 t225 t226 _ ?side1 ?side2 A10.out).mono ?_);(case side1=>exact kC (Kd.R_reads' HO222.out).2.2);(case side2=>exact (Kd.R_reads' HO222.out).2.1);rintro e w36 ⟨rfl,hb⟩;refine⟨_,rfl,?_⟩;replace HO215:=mk0 (bR HO215.out hb);replace HO222:=mk0 (bR HO222.out hb);replace BK212:=mk0 (kK BK212.out hb);replace HB:=mk0 (kS HB.out hb);(try clear hb))|((with_reducible refine gate_callee (f:=12) rfl ?_);refine goesL_ (some 27) rfl rfl Try.func12 (by kernel_rfl) rfl #[.slice A0 l0.length c0] rfl (by (try simp only [mA,mC,mN]);first|done|rfl|(simp only [List.length_drop,List.length_take];done)|(simp only [List.length_drop,List.length_take];rfl)) ?_;(with_reducible refine (laws_toByteS.calls k _ _ l0 t227 _ ?side1 ?side2 A23.out).mono ?_);(case side1=>exact kC (Kd.C_below HR0.out HB.out));(case side2=>exact HC0.out);rintro e w37 ⟨v228,rfl,ho0,hb⟩;refine⟨_,rfl,?_⟩;have HO229:=mk0 (Kd.R_lower (Kd.R_new' (Kd.R_new' ho0 (Kd.R_lt (rR HO215.out))) (Kd.R_lt (rR HO222.out))) (kZ HB.out));replace HO215:=mk0 (Kd.R_elder' (rR HO215.out) (Kd.R_base ho0) hb);replace HO222:=mk0 (Kd.R_elder' (rR HO222.out) (Kd.R_base ho0) hb);replace BK212:=mk0 (kK BK212.out hb);replace HB:=mk0 (kS HB.out hb);(try clear hb);(try clear ho0);obtain⟨Ao38,co38,eo38⟩:=Kd.R_slice HO229.out;subst eo38)|((with_reducible refine gate_callee (f:=15) rfl ?_);refine goesL_ (some 28) rfl rfl Try.func15 (by kernel_rfl) rfl #[.slice Ao35 t220.length co35,.slice Ao38 t227.length co38] rfl (by (try simp only [mA,mC,mN]);first|done|rfl|(simp only [List.length_drop,List.length_take];done)|(simp only [List.length_drop,List.length_take];rfl)) ?_;(with_reducible refine (laws_eqByteS.calls k _ _ t220 _ _ t227 true _ ?side1 ?side2 ?side3 ?side4 A24.out).mono ?_);(case side1=>exact kC (Kd.R_reads' HO222.out).2.2);(case side2=>exact (Kd.R_reads' HO222.out).2.1);(case side3=>exact kC (Kd.R_reads' HO229.out).2.2);(case side4=>exact (Kd.R_reads' HO229.out).2.1);rintro e w' ⟨rfl,⟨nd,rfl⟩⟩;refine⟨_,rfl,?_⟩))
  go_ret
  exact⟨by first|rfl|(simp [errW_none,errW_some] <;> rfl)|(simp [*,errW_none,errW_some] <;> rfl),kB HB.out⟩
 replace c25:=Bool.eq_false_iff.mpr c25
 subst c25
 have H1:(some false) = some r:=by rw [if_neg (show ¬ (false = true) by decide)] at H;exact H
 clear H
 have H:=H1
 clear H1
 obtain rfl:=Option.some.inj H
 go_enter Try.func3,Try.ntmps3
 try go_wp2_with (first|((with_reducible refine gate_dst (N:=3) rfl ?_);refine box_event ?hg (N:=3) ?hd (cs:=#[.int .i64 a1_0,.int .i64 a1_1,.int .i64 a1_2]) (t:=24) ?hr ?_;(case hd=>rfl);(case hg=>rfl);(case hr=>first|(go_simp;done)|(go_simp;rfl));intro gb212 hg w39 hbox hb;have BK212:=mk0 (hbox);have GW212:=mk0 ((by rw [hg];exact (kZ HB.out):w.heap.size ≤ gb212));have GE212:=mk0 ((by rw [hg];exact (kZ HB.out):w.heap.size ≤ gb212));replace HB:=mk0 (kS HB.out hb);clear hb hbox hg))
 replace BK212:=mk0 (dB BK212.out)
 replace HB:=mk0 (dZ HB.out)
 refine start_ (n:=6) (S:=fun w'=>w'.cell? ⟨gb212,0,none⟩ = some (.int .i64 a1_0) ∧ w'.cell? ⟨gb212,1,none⟩ = some (.int .i64 a1_1) ∧ w'.cell? ⟨gb212,2,none⟩ = some (.int .i64 a1_2)) (ds:=[]) #[false,false,false,false,false,false] (by kernel_rfl) rfl rfl (ck3 BK212.out) (fun hHeld=>?_)
 generalize w39.drew = w40 at BK212 HB hHeld ⊢
 refine pure_ (i:=0) (N:=some 11) (v:=?_) (a':=?_) #[true,false,false,false,false,false] rfl rfl (by kernel_rfl) (fun _ _ _ h=>h) (Or.inl ⟨by rfl,?_⟩) ?_ ?_
 rotate_left
 ·intro w'
  go_simp
  with_reducible rfl
 rotate_left
 ·simp only [Act.put,sA,sO,sS,i64_w,i32_w]
  rfl
 refine take_ (i:=2) (N:=some 13) (v:=?_) (a':=?_) #[true,false,true,false,false,false] rfl rfl (by kernel_rfl) (fun _ _ _ h=>h) (Or.inl ⟨by rfl,?_⟩) hHeld ?_ ?_
 rotate_left
 ·rintro w' ⟨s0,s1,s2⟩
  go_simp
  with_reducible rfl
 rotate_left
 ·simp only [Act.put,sA,sO,sS,i64_w,i32_w]
  rfl
 refine one_ (i:=1) (N:=some 12) #[true,true,true,false,false,false] rfl rfl (by kernel_rfl) (by decide) (fun K hK=>?_)
 refine goes_ Try.func12 (by kernel_rfl) rfl #[.slice A0 l0.length c0] (by rfl) rfl rfl (by (try simp only [mA,mC,mN]);first|done|rfl|(simp only [List.length_drop,List.length_take];done)|(simp only [List.length_drop,List.length_take];rfl)) ?_
 with_reducible refine (laws_toByteS.calls k _ _ l0 t213 _ ?side1 ?side2 A5.out).mono ?_
 (case side1=>exact kC (Kd.C_below HR0.out HB.out))
 (case side2=>exact HC0.out)
 rintro e w41 ⟨v214,rfl,ho0,hb⟩
 refine⟨_,rfl,?_⟩
 have HO215:=mk0 (Kd.R_lower ho0 (kZ HB.out))
 replace BK212:=mk0 (kK BK212.out hb)
 replace HB:=mk0 (kS HB.out hb)
 (try clear hb)
 (try clear ho0)
 refine hK.out _ _ (ck3 BK212.out) (fun hHeld=>?_)
 clear hK K
 refine norm_ (a':=?_) ?_ ?_
 rotate_left
 ·show Act.put _ (some 12) _ = _
  simp only [Act.put,sA,sO,sS,i64_w,i32_w]
  rfl
 refine one_ (i:=3) (N:=some 14) #[true,true,true,true,false,false] rfl rfl (by kernel_rfl) (by decide) (fun K hK=>?_)
 refine goes_ Try.func13 (by kernel_rfl) rfl #[.agg #[.int .i64 a1_0,.int .i64 a1_1,.int .i64 a1_2]] (by rfl) rfl rfl (by (try simp only [mA,mC,mN]);first|done|rfl|(simp only [List.length_drop,List.length_take];done)|(simp only [List.length_drop,List.length_take];rfl)) ?_
 with_reducible refine (laws_toStretch.calls a1_0 a1_1 a1_2 t216 t217 t218 _ A6.out).mono ?_
 rintro e w42 ⟨rfl,hb⟩
 refine⟨_,rfl,?_⟩
 replace HO215:=mk0 (bR HO215.out hb)
 replace BK212:=mk0 (kK BK212.out hb)
 replace HB:=mk0 (kS HB.out hb)
 (try clear hb)
 obtain⟨Ao43,co43,eo43⟩:=Kd.R_slice HO215.out
 (first|subst eo43|(injection eo43 with f1_ f2_ f3_;have f4_:=f1_.symm;have f5_:=f3_.symm;clear f1_ f2_ f3_;subst f4_;subst f5_))
 refine hK.out _ _ (ck3 BK212.out) (fun hHeld=>?_)
 clear hK K
 refine norm_ (a':=?_) ?_ ?_
 rotate_left
 ·show Act.put _ (some 14) _ = _
  simp only [Act.put,sA,sO,sS,i64_w,i32_w]
  rfl
 refine one_ (i:=4) (N:=some 15) #[true,true,true,true,true,false] rfl rfl (by kernel_rfl) (by decide) (fun K hK=>?_)
 refine goes_ Try.func11 (by kernel_rfl) rfl #[.slice Ao43 t213.length co43,.agg #[.int .i64 t216,.int .i64 t217,.int .i64 t218]] (by rfl) rfl rfl (by (try simp only [mA,mC,mN]);first|done|rfl|(simp only [List.length_drop,List.length_take];done)|(simp only [List.length_drop,List.length_take];rfl)) ?_
 with_reducible refine (spec_StretchOk.calls k _ _ t213 t216 t217 t218 t219 _ ?side1 ?side2 A7.out).mono ?_
 (case side1=>exact kC (Kd.R_reads' HO215.out).2.2)
 (case side2=>exact (Kd.R_reads' HO215.out).2.1)
 rintro e w44 ⟨rfl,hb⟩
 refine⟨_,rfl,?_⟩
 replace HO215:=mk0 (bR HO215.out hb)
 replace BK212:=mk0 (kK BK212.out hb)
 replace HB:=mk0 (kS HB.out hb)
 (try clear hb)
 refine hK.out _ _ (ck3 BK212.out) (fun hHeld=>?_)
 clear hK K
 refine norm_ (a':=?_) ?_ ?_
 rotate_left
 ·show Act.put _ (some 15) _ = _
  simp only [Act.put,sA,sO,sS,i64_w,i32_w]
  rfl
 refine pure_ (i:=5) (N:=some 5) (v:=?_) (a':=?_) #[true,true,true,true,true,true] rfl rfl (by kernel_rfl) (fun _ _ _ h=>h) (Or.inl ⟨by rfl,?_⟩) ?_ ?_
 rotate_left
 ·intro w'
  go_simp
  with_reducible rfl
 rotate_left
 ·simp only [Act.put,sA,sO,sS,i64_w,i32_w]
  rfl
 refine done_ (by kernel_rfl) ?_
 try go_wp2_with (first|((with_reducible refine gate_callee (f:=12) rfl ?_);refine goesL_ (some 17) rfl rfl Try.func12 (by kernel_rfl) rfl #[.slice A0 l0.length c0] rfl (by (try simp only [mA,mC,mN]);first|done|rfl|(simp only [List.length_drop,List.length_take];done)|(simp only [List.length_drop,List.length_take];rfl)) ?_;(with_reducible refine (laws_toByteS.calls k _ _ l0 t220 _ ?side1 ?side2 A8.out).mono ?_);(case side1=>exact kC (Kd.C_below HR0.out HB.out));(case side2=>exact HC0.out);rintro e w45 ⟨v221,rfl,ho0,hb⟩;refine⟨_,rfl,?_⟩;have HO222:=mk0 (Kd.R_lower (Kd.R_new' ho0 (Kd.R_lt (rR HO215.out))) (kZ HB.out));replace HO215:=mk0 (Kd.R_elder' (rR HO215.out) (Kd.R_base ho0) hb);replace BK212:=mk0 (kK BK212.out hb);replace HB:=mk0 (kS HB.out hb);(try clear hb);(try clear ho0);obtain⟨hcz46_0,hcz46_1,hcz46_2,hfz46_0,hfz46_1,hfz46_2⟩:=cz3 BK212.out)|((with_reducible refine gate_callee (f:=13) rfl ?_);refine goesL_ (some 20) rfl rfl Try.func13 (by kernel_rfl) rfl #[.agg #[.int .i64 a1_0,.int .i64 a1_1,.int .i64 a1_2]] rfl (by (try simp only [mA,mC,mN]);first|done|rfl|(simp only [List.length_drop,List.length_take];done)|(simp only [List.length_drop,List.length_take];rfl)) ?_;(with_reducible refine (laws_toStretch.calls a1_0 a1_1 a1_2 t223 t224 t225 _ A9.out).mono ?_);rintro e w47 ⟨rfl,hb⟩;refine⟨_,rfl,?_⟩;replace HO215:=mk0 (bR HO215.out hb);replace HO222:=mk0 (bR HO222.out hb);replace BK212:=mk0 (kK BK212.out hb);replace HB:=mk0 (kS HB.out hb);(try clear hb);obtain⟨Ao48,co48,eo48⟩:=Kd.R_slice HO222.out;subst eo48)|((with_reducible refine gate_callee (f:=14) rfl ?_);refine goesL_ (some 21) rfl rfl Try.func14 (by kernel_rfl) rfl #[.slice Ao48 t220.length co48,.agg #[.int .i64 t223,.int .i64 t224,.int .i64 t225]] rfl (by (try simp only [mA,mC,mN]);first|done|rfl|(simp only [List.length_drop,List.length_take];done)|(simp only [List.length_drop,List.length_take];rfl)) ?_;(with_reducible refine (impl_StretchOk.calls k _ _ t220 t223 t224 t225 t226 _ ?side1 ?side2 A10.out).mono ?_);(case side1=>exact kC (Kd.R_reads' HO222.out).2.2);(case side2=>exact (Kd.R_reads' HO222.out).2.1);rintro e w49 ⟨rfl,hb⟩;refine⟨_,rfl,?_⟩;replace HO215:=mk0 (bR HO215.out hb);replace HO222:=mk0 (bR HO222.out hb);replace BK212:=mk0 (kK BK212.out hb);replace HB:=mk0 (kS HB.out hb);(try clear hb))|((with_reducible refine gate_callee (f:=12) rfl ?_);refine goesL_ (some 27) rfl rfl Try.func12 (by kernel_rfl) rfl #[.slice A0 l0.length c0] rfl (by (try simp only [mA,mC,mN]);first|done|rfl|(simp only [List.length_drop,List.length_take];done)|(simp only [List.length_drop,List.length_take];rfl)) ?_;(with_reducible refine (laws_toByteS.calls k _ _ l0 t227 _ ?side1 ?side2 A23.out).mono ?_);(case side1=>exact kC (Kd.C_below HR0.out HB.out));(case side2=>exact HC0.out);rintro e w50 ⟨v228,rfl,ho0,hb⟩;refine⟨_,rfl,?_⟩;have HO229:=mk0 (Kd.R_lower (Kd.R_new' (Kd.R_new' ho0 (Kd.R_lt (rR HO215.out))) (Kd.R_lt (rR HO222.out))) (kZ HB.out));replace HO215:=mk0 (Kd.R_elder' (rR HO215.out) (Kd.R_base ho0) hb);replace HO222:=mk0 (Kd.R_elder' (rR HO222.out) (Kd.R_base ho0) hb);replace BK212:=mk0 (kK BK212.out hb);replace HB:=mk0 (kS HB.out hb);(try clear hb);(try clear ho0);obtain⟨Ao51,co51,eo51⟩:=Kd.R_slice HO229.out;subst eo51)|((with_reducible refine gate_callee (f:=15) rfl ?_);refine goesL_ (some 28) rfl rfl Try.func15 (by kernel_rfl) rfl #[.slice Ao48 t220.length co48,.slice Ao51 t227.length co51] rfl (by (try simp only [mA,mC,mN]);first|done|rfl|(simp only [List.length_drop,List.length_take];done)|(simp only [List.length_drop,List.length_take];rfl)) ?_;(with_reducible refine (laws_eqByteS.calls k _ _ t220 _ _ t227 false _ ?side1 ?side2 ?side3 ?side4 A24.out).mono ?_);(case side1=>exact kC (Kd.R_reads' HO222.out).2.2);(case side2=>exact (Kd.R_reads' HO222.out).2.1);(case side3=>exact kC (Kd.R_reads' HO229.out).2.2);(case side4=>exact (Kd.R_reads' HO229.out).2.1);rintro e w' ⟨rfl,⟨nd,rfl⟩⟩;refine⟨_,rfl,?_⟩))
 go_ret
 exact⟨by first|rfl|(simp [errW_none,errW_some] <;> rfl)|(simp [*,errW_none,errW_some] <;> rfl),kB HB.out⟩

/-- The plain statement of laws_FnExactStretchOk. -/
def laws_FnExactStretchOk.Pure : Prop := ∀ (l0 : List Int) (a1_0 : Int) (a1_1 : Int) (a1_2 : Int), (Fv.OkL (Fv.OkI .u8)) l0 → ok24 ((⟨a1_0, a1_1, a1_2⟩ : S24)) → ∃ k, laws_FnExactStretchOk.f k l0 a1_0 a1_1 a1_2 = some true

end Go.Proofs.Ytoinagnieobbpaa.QFnExactStretchOk
